import PyProof.Rows.All
import Wide.All
import OpenK.AllK
import Wide.FinOn
import HandS.ForMost
import HandS.ForExc
import HandS.TupAny
import HandS.Style
import HandS.Deep
import HandS.IsInst
import HandS.TupMul
import HandS.TupLe
import HandS.Zip
import HandS.Conv
import HandS.Iter
import KE.SortData
import HandS.SetFor
import HandS.Remove
import HandS.SortInts
import HandS.Strs
import HandS.TupSets
import HandS.Exc
import HandS.ExcOwn
import KE.GoesMore
import KE.GoesEnum
import KE.KDictDisplayH
import PySem.Challenge.RW_transferlists_k13_whole_lists_at_a_dista
import KE.Datum
set_option Elab.async false
set_option maxRecDepth 100000
set_option maxRecDepth 100000
namespace PL
open PySem PySem.Spec PyProof.Rows L2

/-! ### plain values; a frame's slots; results -/
abbrev D := PyData
abbrev St := List (Option V)
inductive Sl where
  | no | im (d : D) | ol (ds : List D) | odk (kvs : List (Key × D)) | odt (kvs : List (List Key × D))
def Sl.own : Sl → Bool
  | .no => false
  | .im _ => false
  | _ => true
abbrev En := List Sl
inductive Rf where
  | im (d : D) | var (j : Nat) | tmp (s : Sl)
inductive Res (α : Type) where
  | ok (a : α) (e : En) | exn (c : Str) (e : En) | stuck
abbrev M (α : Type) := En → Res α
def Res.bind {α β : Type} (r : Res α) (f : α → M β) : Res β := match r with
  | .ok a e => f a e
  | .exn c e => .exn c e
  | .stuck => .stuck
@[simp] theorem Res.bind_ok {α β : Type} (a : α) (e : En) (f : α → M β) : (Res.ok a e).bind f = f a e := rfl
@[simp] theorem Res.bind_exn {α β : Type} (c : Str) (e : En) (f : α → M β) : (Res.exn c e : Res α).bind f = .exn c e := rfl
@[simp] theorem Res.bind_stuck {α β : Type} (f : α → M β) : (Res.stuck : Res α).bind f = .stuck := rfl
def M.bind {α β : Type} (m : M α) (f : α → M β) : M β := fun env => (m env).bind f
def M.ret {α : Type} (a : α) : M α := fun env => .ok a env
def M.fail {α : Type} : M α := fun _ => .stuck

/-! ### how they lie in the heap -/
structure MG where
  K : PySem.W.Frag
  g : Str → Option Value
abbrev _root_.L2.Cx.ct (X : Cx) : MG := ⟨X.K, X.mg⟩
abbrev AP := Addr → Prop
/-- a list that stands in the written part -/
def KL (K : PySem.W.Frag) (a : Addr) (xs : List V) : Prop := ∃ (o : Obj) (its : Array Value) (n : Nat), K.lookup a = some o ∧ o.cls = .type "list" ∧ o.dict = none ∧ o.data = .seq its n ∧ its.size ≤ sizeLine ∧ Vals xs its.toList
/-- no list or tuple is longer than a list may be -/
def LB (G : AP) (H : Hp) : Prop := (∀ a xs, (H a = some (.tup xs) ∨ Rd H a (.lst xs)) → xs.length ≤ sizeLine) ∧ ∀ b, G b → ∀ xs, H b ≠ some (.tup xs)
/-- a dict's key -/
def kD : Key → D
  | .inl i => .int i
  | .inr x => .str x
mutual
inductive Dn (mg : MG) (G : AP) (H : Hp) : V → D → Prop
  | non : Dn mg G H .non .none
  | bl (b : Bool) : Dn mg G H (.bl b) (.bool b)
  | int (i : Int) : Dn mg G H (.int i) (.int i)
  | str (x : Str) : Dn mg G H (.str x) (.str x)
  | lst {a : Addr} {xs : List V} {ds : List D} : ¬ G a → H a = some (.lst xs) → DnA mg G H xs ds → Dn mg G H (.ref a) (.list ds)
  | scr {a : Addr} {o : Obj} {xs : List V} {ds : List D} : ¬ G a → H a = some (.frz o (.lst xs)) → DnA mg G H xs ds → Dn mg G H (.ref a) (.dict [(.none, .list ds)])
  | lk {a : Addr} {xs : List V} {ds : List D} : KL mg.K a xs → DnA mg G H xs ds → Dn mg G H (.ref a) (.dict [(.none, .list ds)])
  | tup {a : Addr} {xs : List V} {ds : List D} : ¬ G a → H a = some (.tup xs) → DnA mg G H xs ds → Dn mg G H (.ref a) (.tuple ds)
  | fn {x : Str} {a : Addr} : mg.g x = some (.ref a) → Dn mg G H (.ref a) (.dict [(.str x, .none)])
  | dk {a : Addr} {ks : List (Key × V)} {kvs : List (Key × D)} {ps : List (D × D)} : ¬ G a → Rd H a (.dK ks) → ks.map (·.1) = kvs.map (·.1) → DnA mg G H (ks.map (·.2)) (kvs.map (·.2)) → ps = kvs.map (fun p => (kD p.1, p.2)) → Dn mg G H (.ref a) (.dict ((.bool false, .none) :: ps))
  | dt {a : Addr} {ks : List (List Key × V)} {kvs : List (List Key × D)} {ps : List (D × D)} : ¬ G a → Rd H a (.dT ks) → ks.map (·.1) = kvs.map (·.1) → DnA mg G H (ks.map (·.2)) (kvs.map (·.2)) → ps = kvs.map (fun p => (.tuple (p.1.map kD), p.2)) → Dn mg G H (.ref a) (.dict ((.bool true, .none) :: ps))
inductive DnA (mg : MG) (G : AP) (H : Hp) : List V → List D → Prop
  | nil : DnA mg G H [] []
  | cons {v : V} {vs : List V} {d : D} {ds : List D} : Dn mg G H v d → DnA mg G H vs ds → DnA mg G H (v :: vs) (d :: ds)
end
/-- what isn't guarded stays -/
def Fz (G : AP) (H : Hp) (G' : AP) (H' : Hp) : Prop := ∀ b o, ¬ G b → H b = some o → H' b = some o ∧ ¬ G' b
theorem Fz.refl {G : AP} {H : Hp} : Fz G H G H := fun _ _ g h => ⟨h, g⟩
theorem Fz.trans {G G1 G2 : AP} {H H1 H2 : Hp} (a : Fz G H G1 H1) (b : Fz G1 H1 G2 H2) : Fz G H G2 H2 := fun c o g h => by
  obtain ⟨h1, g1⟩ := a c o g h
  exact b c o g1 h1
section
variable {mg : MG} {G G' : AP} {H H' : Hp}
theorem Fz.rd (k : Fz G H G' H') {a : Addr} {u : HO} (g : ¬ G a) (h : Rd H a u) : Rd H' a u ∧ ¬ G' a := by
  rcases h with h | ⟨o, h⟩
  · exact ⟨.inl (k _ _ g h).1, (k _ _ g h).2⟩
  · exact ⟨.inr ⟨o, (k _ _ g h).1⟩, (k _ _ g h).2⟩
mutual
theorem Dn.keep (k : Fz G H G' H') : ∀ {v : V} {d : D}, Dn mg G H v d → Dn mg G' H' v d
  | _, _, .non => .non
  | _, _, .bl b => .bl b
  | _, _, .int i => .int i
  | _, _, .str x => .str x
  | _, _, .lst g r a => .lst (k _ _ g r).2 (k _ _ g r).1 (DnA.keep k a)
  | _, _, .scr g r a => .scr (k _ _ g r).2 (k _ _ g r).1 (DnA.keep k a)
  | _, _, .lk r a => .lk r (DnA.keep k a)
  | _, _, .tup g r a => .tup (k _ _ g r).2 (k _ _ g r).1 (DnA.keep k a)
  | _, _, .fn h => .fn h
  | _, _, .dk g r e a z => .dk (Fz.rd k g r).2 (Fz.rd k g r).1 e (DnA.keep k a) z
  | _, _, .dt g r e a z => .dt (Fz.rd k g r).2 (Fz.rd k g r).1 e (DnA.keep k a) z
theorem DnA.keep (k : Fz G H G' H') : ∀ {vs : List V} {ds : List D}, DnA mg G H vs ds → DnA mg G' H' vs ds
  | _, _, .nil => .nil
  | _, _, .cons a b => .cons (Dn.keep k a) (DnA.keep k b)
end
theorem DnA.length : ∀ {vs : List V} {ds : List D}, DnA mg G H vs ds → vs.length = ds.length
  | _, _, .nil => rfl
  | _, _, .cons _ b => by rw [List.length_cons, List.length_cons, DnA.length b]
theorem DnA.append : ∀ {vs : List V} {ds : List D} {ws : List V} {es : List D}, DnA mg G H vs ds → DnA mg G H ws es → DnA mg G H (vs ++ ws) (ds ++ es)
  | _, _, _, _, .nil, b => b
  | _, _, _, _, .cons a r, b => .cons a (DnA.append r b)
theorem DnA.get : ∀ {vs : List V} {ds : List D} {i : Nat} {d : D}, DnA mg G H vs ds → ds[i]? = some d → ∃ v, vs[i]? = some v ∧ Dn mg G H v d
  | _, _, _, _, .nil, e => by simp at e
  | _, _, 0, _, .cons a r, e => by simp at e; subst e; exact ⟨_, rfl, a⟩
  | _, _, i + 1, _, .cons a r, e => by
    obtain ⟨v, h1, h2⟩ := DnA.get (i := i) r (by simpa using e)
    exact ⟨v, by simpa using h1, h2⟩
theorem DnA.get' : ∀ {vs : List V} {ds : List D} {i : Nat} {v : V}, DnA mg G H vs ds → vs[i]? = some v → ∃ d, ds[i]? = some d ∧ Dn mg G H v d
  | _, _, _, _, .nil, e => by simp at e
  | _, _, 0, _, .cons a r, e => by simp at e; subst e; exact ⟨_, rfl, a⟩
  | _, _, i + 1, _, .cons a r, e => by
    obtain ⟨v, h1, h2⟩ := DnA.get' (i := i) r (by simpa using e)
    exact ⟨v, by simpa using h1, h2⟩
theorem DnA.take : ∀ (n : Nat) {vs : List V} {ds : List D}, DnA mg G H vs ds → DnA mg G H (vs.take n) (ds.take n)
  | 0, _, _, _ => .nil
  | _ + 1, _, _, .nil => .nil
  | n + 1, _, _, .cons a r => .cons a (DnA.take n r)
theorem DnA.drop : ∀ (n : Nat) {vs : List V} {ds : List D}, DnA mg G H vs ds → DnA mg G H (vs.drop n) (ds.drop n)
  | 0, _, _, r => r
  | _ + 1, _, _, .nil => .nil
  | n + 1, _, _, .cons _ r => DnA.drop n r
theorem DnA.set {v : V} {d : D} (q : Dn mg G H v d) : ∀ (n : Nat) {vs : List V} {ds : List D}, DnA mg G H vs ds → DnA mg G H (vs.set n v) (ds.set n d)
  | _, _, _, .nil => .nil
  | 0, _, _, .cons _ r => .cons q r
  | n + 1, _, _, .cons a r => .cons a (DnA.set q n r)
theorem DnA.eraseIdx : ∀ (n : Nat) {vs : List V} {ds : List D}, DnA mg G H vs ds → DnA mg G H (vs.eraseIdx n) (ds.eraseIdx n)
  | _, _, _, .nil => .nil
  | 0, _, _, .cons _ r => r
  | n + 1, _, _, .cons a r => .cons a (DnA.eraseIdx n r)
theorem DnA.dropLast : ∀ {vs : List V} {ds : List D}, DnA mg G H vs ds → DnA mg G H vs.dropLast ds.dropLast
  | _, _, .nil => .nil
  | _, _, .cons _ .nil => .nil
  | _, _, .cons a (.cons b r) => .cons a (DnA.dropLast (.cons b r))
theorem DnA.rev {vs : List V} {ds : List D} (h : DnA mg G H vs ds) : DnA mg G H vs.reverse ds.reverse := by
  induction vs generalizing ds with
  | nil => cases h; exact .nil
  | cons v vs ih =>
    cases h with
    | cons a r =>
      rw [List.reverse_cons, List.reverse_cons]
      exact (ih r).append (.cons a .nil)
theorem DnA.rep {vs : List V} {ds : List D} (h : DnA mg G H vs ds) : ∀ k : Nat, DnA mg G H (List.replicate k vs).flatten (List.replicate k ds).flatten
  | 0 => .nil
  | k + 1 => by
    rw [List.replicate_succ, List.replicate_succ, List.flatten_cons, List.flatten_cons]
    exact h.append (h.rep k)
end
def KvR {κ : Type} (mg : MG) (G : AP) (H : Hp) : List (κ × V) → List (κ × D) → Prop := Paired fun p q => p.1 = q.1 ∧ Dn mg G H p.2 q.2
theorem Paired.mapD {α β : Type} {F F' : α → β → Prop} (f : ∀ a b, F a b → F' a b) : ∀ {l : List α} {r : List β}, Paired F l r → Paired F' l r
  | _, _, .nil => .nil
  | _, _, .cons a b => .cons (f _ _ a) (Paired.mapD f b)
/-- an object that one name alone holds -/
def OwR (mg : MG) (G : AP) (H : Hp) (a : Addr) : Sl → Prop
  | .ol ds => ∃ xs, H a = some (.lst xs) ∧ DnA mg G H xs ds
  | .odk kvs => ∃ ks, H a = some (.dK ks) ∧ KvR mg G H ks kvs
  | .odt kvs => ∃ ks, H a = some (.dT ks) ∧ KvR mg G H ks kvs
  | _ => False
theorem OwR.own {mg : MG} {G : AP} {H : Hp} {a : Addr} {s : Sl} (h : OwR mg G H a s) : s.own = true := by
  cases s <;> first | rfl | exact h.elim
theorem OwR.there {mg : MG} {G : AP} {H : Hp} {a : Addr} {s : Sl} (h : OwR mg G H a s) : H a ≠ none := by
  cases s with
  | ol ds => obtain ⟨xs, e, _⟩ := h; rw [e]; simp
  | odk ds => obtain ⟨xs, e, _⟩ := h; rw [e]; simp
  | odt ds => obtain ⟨xs, e, _⟩ := h; rw [e]; simp
  | no => exact h.elim
  | im d => exact h.elim
theorem OwR.keep {mg : MG} {G G' : AP} {H H' : Hp} {a : Addr} {s : Sl} (k : Fz G H G' H') (ha : ∀ o, H a = some o → H' a = some o) (h : OwR mg G H a s) : OwR mg G' H' a s := by
  cases s with
  | ol ds => obtain ⟨xs, e, q⟩ := h; exact ⟨xs, ha _ e, q.keep k⟩
  | odk ds => obtain ⟨xs, e, q⟩ := h; exact ⟨xs, ha _ e, Paired.mapD (fun _ _ z => ⟨z.1, z.2.keep k⟩) q⟩
  | odt ds => obtain ⟨xs, e, q⟩ := h; exact ⟨xs, ha _ e, Paired.mapD (fun _ _ z => ⟨z.1, z.2.keep k⟩) q⟩
  | no => exact h.elim
  | im d => exact h.elim
def SlR (mg : MG) (G : AP) (H : Hp) (v : V) : Sl → Prop
  | .no => True
  | .im d => Dn mg G H v d
  | s => ∃ a, v = .ref a ∧ G a ∧ OwR mg G H a s
theorem SlR.of_own {mg : MG} {G : AP} {H : Hp} {v : V} {s : Sl} (h : SlR mg G H v s) (ho : s.own = true) : ∃ a, v = .ref a ∧ G a ∧ OwR mg G H a s := by
  cases s <;> first | exact h | cases ho
theorem SlR.mk_own {mg : MG} {G : AP} {H : Hp} {a : Addr} {s : Sl} (g : G a) (h : OwR mg G H a s) : SlR mg G H (.ref a) s := by
  cases s <;> first | exact ⟨a, rfl, g, h⟩ | exact h.elim

/-- a call's ground: the heap and the guards ahead of it, the objects handed in to be changed (by slot) -/
structure Bs where
  H0 : Hp
  G0 : AP
  io : List (Nat × Addr)
  np : Nat
/-- addresses that the frame's names own -/
def Ow (σ : St) (env : En) (b : Addr) : Prop := ∃ (i : Nat) (s : Sl), env[i]? = some s ∧ s.own = true ∧ σ[i]? = some (some (V.ref b))
structure ER (B : Bs) (mg : MG) (G : AP) (H : Hp) (σ : St) (env : En) : Prop where
  len : σ.length = env.length
  sl : ∀ (i : Nat) (s : Sl), env[i]? = some s → s ≠ .no → ∃ v, σ[i]? = some (some v) ∧ SlR mg G H v s
  ds : ∀ (i j : Nat) (s s' : Sl) (a : Addr), env[i]? = some s → s.own = true → env[j]? = some s' → s'.own = true → σ[i]? = some (some (V.ref a)) → σ[j]? = some (some (V.ref a)) → i = j
  io : ∀ p ∈ B.io, p.1 < B.np ∧ σ[p.1]? = some (some (V.ref p.2)) ∧ ∃ s, env[p.1]? = some s ∧ s.own = true
  f1 : ∀ b o, B.H0 b = some o → (∀ p ∈ B.io, p.2 ≠ b) → H b = some o
  f2 : ∀ b, B.H0 b ≠ none → H b ≠ none
  f3 : ∀ b, G b → B.G0 b ∨ B.H0 b = none
  f4 : ∀ b, B.G0 b → G b
  f5 : ∀ (i : Nat) (s : Sl) (a : Addr), env[i]? = some s → s.own = true → σ[i]? = some (some (V.ref a)) → (∃ p ∈ B.io, p.1 = i) ∨ B.H0 a = none
  gt : ∀ b, G b → H b ≠ none
  g0 : ∀ b, B.G0 b → B.H0 b ≠ none
  lb : LB G H
structure Ext (G : AP) (H : Hp) (G' : AP) (H' : Hp) (σ : St) (env env' : En) : Prop where
  e1 : ∀ b o, H b = some o → ¬ Ow σ env b → H' b = some o
  e2 : ∀ b, H b ≠ none → H' b ≠ none
  e3 : ∀ b, G' b → G b ∨ H b = none
  e4 : ∀ b, G b → ¬ Ow σ env b → G' b
  e5 : ∀ b, Ow σ env' b → Ow σ env b
section
variable {B : Bs} {mg : MG} {G G' G1 G2 : AP} {H H' H1 H2 : Hp} {σ : St} {env env' env1 env2 : En}
theorem ER.ow (E : ER B mg G H σ env) {b : Addr} (h : Ow σ env b) : G b := by
  obtain ⟨i, s, e, o, q⟩ := h
  obtain ⟨v, hv, r⟩ := E.sl i s e (by rintro rfl; cases o)
  rw [hv] at q
  obtain ⟨a, rfl, g, _⟩ := r.of_own o
  cases q
  exact g
theorem ER.ow_there (E : ER B mg G H σ env) {b : Addr} (h : Ow σ env b) : H b ≠ none := E.gt b (E.ow h)
theorem Ext.refl : Ext G H G H σ env env := ⟨fun _ _ h _ => h, fun _ h => h, fun _ h => .inl h, fun _ h _ => h, fun _ h => h⟩
theorem Ext.trans (a : Ext G H G1 H1 σ env env1) (b : Ext G1 H1 G2 H2 σ env1 env2) : Ext G H G2 H2 σ env env2 where
  e1 := fun c o h n => b.e1 c o (a.e1 c o h n) fun z => n (a.e5 c z)
  e2 := fun c h => b.e2 c (a.e2 c h)
  e3 := fun c h => by
    rcases b.e3 c h with z | z
    · exact a.e3 c z
    · right
      cases q : H c with
      | none => rfl
      | some o => exact absurd z (a.e2 c (by rw [q]; simp))
  e4 := fun c h n => b.e4 c (a.e4 c h n) fun z => n (a.e5 c z)
  e5 := fun c h => a.e5 c (b.e5 c h)
theorem Ext.fz (x : Ext G H G' H' σ env env') (E : ER B mg G H σ env) : Fz G H G' H' := fun b o g h =>
  ⟨x.e1 b o h fun z => g (E.ow z), fun z => by
    rcases x.e3 b z with q | q
    · exact g q
    · rw [h] at q; cases q⟩
/-- a temporary object: kept, guarded -/
structure TmpAt (mg : MG) (Hb : Hp) (G : AP) (H : Hp) (a : Addr) (s : Sl) : Prop where
  g : G a
  new : Hb a = none
  r : OwR mg G H a s
theorem TmpAt.ext {Hb : Hp} {a : Addr} {s : Sl} (t : TmpAt mg Hb G H a s) (hn : ¬ Ow σ env a) (E : ER B mg G H σ env) (x : Ext G H G' H' σ env env') : TmpAt mg Hb G' H' a s :=
  ⟨x.e4 a t.g hn, t.new, t.r.keep (x.fz E) fun o h => x.e1 a o h hn⟩
end
def RfR (mg : MG) (Hb : Hp) (G : AP) (H : Hp) (σ : St) (env : En) (v : V) : Rf → Prop
  | .im d => Dn mg G H v d
  | .var j => σ[j]? = some (some v)
  | .tmp s => ∃ a, v = .ref a ∧ TmpAt mg Hb G H a s ∧ ¬ Ow σ env a

/-! ### what a reading does, by a plain function -/
abbrev Rl (α β : Type) := Hp → AP → Hp → St → En → α → β → Prop
def Post {α β : Type} (B : Bs) (mg : MG) (W : WX) (Rel : Rl α β) (G : AP) (H : Hp) (σ : St) (env : En) (r : Res β) (Q : α → Hp → Prop) : Prop := match r with
  | .ok y env' => ∀ G' H' x, ER B mg G' H' σ env' → Rel H G' H' σ env' x y → Ext G H G' H' σ env env' → Q x H'
  | .exn c env' => ∀ G' H' cls, ER B mg G' H' σ env' → Ext G H G' H' σ env env' → mg.g c = some cls → W cls none σ H'
  | .stuck => False
def Imp {α β : Type} (B : Bs) (mg : MG) (W : WX) (Rel : Rl α β) (t : St → Hp → (α → Hp → Prop) → Prop) (m : M β) : Prop :=
  ∀ G H σ env Q, ER B mg G H σ env → Post B mg W Rel G H σ env (m env) Q → t σ H Q
/-- the ground may be an earlier heap -/
def Back {α β : Type} (Rel : Rl α β) : Prop := ∀ Hb Hb' G H σ env x y, (∀ b, Hb b ≠ none → Hb' b ≠ none) → Rel Hb' G H σ env x y → Rel Hb G H σ env x y
abbrev rV (mg : MG) : Rl V Rf := fun Hb G H σ env v x => RfR mg Hb G H σ env v x
abbrev rB : Rl Bool Bool := fun _ _ _ _ _ x y => x = y
theorem back_none {Hb Hb' : Hp} (h : ∀ b, Hb b ≠ none → Hb' b ≠ none) {a : Addr} (n : Hb' a = none) : Hb a = none := by
  cases q : Hb a with
  | none => rfl
  | some o => exact absurd n (h a (by rw [q]; simp))
theorem back_V {mg : MG} : Back (rV mg) := fun Hb Hb' G H σ env v x h r => by
  cases x with
  | im d => exact r
  | var j => exact r
  | tmp s => obtain ⟨a, e, t, n⟩ := r; exact ⟨a, e, ⟨t.g, back_none h t.new, t.r⟩, n⟩
theorem back_B : Back rB := fun _ _ _ _ _ _ _ _ _ r => r
section
variable {α β γ δ : Type} {B : Bs} {mg : MG} {W : WX} {R1 : Rl α β} {R2 : Rl γ δ} {G G1 : AP} {H H1 : Hp} {σ : St} {env env1 : En}
theorem Post.shift (hb : Back R2) (x : Ext G H G1 H1 σ env env1) {r : Res δ} {Q : γ → Hp → Prop} (p : Post B mg W R2 G H σ env r Q) : Post B mg W R2 G1 H1 σ env1 r Q := by
  cases r with
  | ok y env' => exact fun G' H' z e rl x' => p G' H' z e (hb _ _ _ _ _ _ _ _ x.e2 rl) (x.trans x')
  | exn c env' => exact fun G' H' cls e x' hm => p G' H' cls e (x.trans x') hm
  | stuck => exact p
/-- one reading behind another, over an earlier ground -/
theorem Imp.run {Gb : AP} {Hb : Hp} {envb : En} {t : St → Hp → (α → Hp → Prop) → Prop} {m : M β} {f : β → M δ} {Q : γ → Hp → Prop} {K : α → Hp → Prop} (i : Imp B mg W R1 t m) (E : ER B mg G H σ env) (x0 : Ext Gb Hb G H σ envb env)
    (p : Post B mg W R2 Gb Hb σ envb ((m env).bind f) Q)
    (k : ∀ x y env1 G1 H1, m env = .ok y env1 → ER B mg G1 H1 σ env1 → R1 H G1 H1 σ env1 x y → Ext G H G1 H1 σ env env1 → Ext Gb Hb G1 H1 σ envb env1 → Post B mg W R2 Gb Hb σ envb (f y env1) Q → K x H1) : t σ H K := by
  refine i G H σ env K E ?_
  generalize hr : m env = r at p k
  cases r with
  | ok y env' => exact fun G' H' x e rl x' => k x y env' G' H' rfl e rl x' (x0.trans x') p
  | exn c env' => exact fun G' H' cls e x' hm => p G' H' cls e (x0.trans x') hm
  | stuck => exact p
end
end PL

set_option maxRecDepth 100000
namespace PL
open PySem PySem.Spec PyProof.Rows L2

/-! ### only new objects are laid -/
structure New (G : AP) (H : Hp) (G' : AP) (H' : Hp) : Prop where
  k : ∀ b o, H b = some o → H' b = some o
  n : ∀ b, G' b → G b ∨ H b = none
  g : ∀ b, G b → G' b
  t : ∀ b, G' b → H' b ≠ none
  lb : LB G H → LB G' H'
/-- what is laid isn't too long -/
def Fits : HO → Prop
  | .lst xs => xs.length ≤ sizeLine
  | .tup xs => xs.length ≤ sizeLine
  | .frz _ _ => False
  | _ => True
theorem LB.upd {G : AP} {H : Hp} {p : Addr} {o : HO} (h : LB G H) (f : Fits o) (nt : G p → ∀ xs, o ≠ .tup xs) : LB G (L2.upd H p o) := ⟨fun a xs q => by
  by_cases e : a = p
  · subst e
    rcases q with q | q | ⟨z, q⟩
    all_goals (rw [upd_same] at q; cases q; first | exact f | exact False.elim f)
  · refine h.1 a xs ?_
    rcases q with q | q | ⟨z, q⟩
    · rw [upd_ne e] at q; exact .inl q
    · rw [upd_ne e] at q; exact .inr (.inl q)
    · rw [upd_ne e] at q; exact .inr (.inr ⟨z, q⟩), fun b g xs q => by
  by_cases e : b = p
  · subst e
    rw [upd_same] at q
    cases q
    exact nt g xs rfl
  · rw [upd_ne e] at q
    exact h.2 b g xs q⟩
theorem LB.le {G G' : AP} {H : Hp} (h : LB G H) (k : ∀ b, G' b → G b) : LB G' H := ⟨h.1, fun b g => h.2 b (k b g)⟩
section
variable {B : Bs} {mg : MG} {G G' G1 G2 Gb : AP} {H H' H1 H2 Hb : Hp} {σ : St} {env env' env1 env2 envb : En}
theorem New.refl (t : ∀ b, G b → H b ≠ none) : New G H G H := ⟨fun _ _ h => h, fun _ h => .inl h, fun _ h => h, t, fun h => h⟩
theorem New.trans (a : New G H G1 H1) (b : New G1 H1 G2 H2) : New G H G2 H2 where
  k := fun c o h => b.k c o (a.k c o h)
  n := fun c h => by
    rcases b.n c h with z | z
    · exact a.n c z
    · right
      cases q : H c with
      | none => rfl
      | some o => rw [a.k c o q] at z; cases z
  g := fun c h => b.g c (a.g c h)
  t := b.t
  lb := fun h => b.lb (a.lb h)
theorem New.dom (x : New G H G' H') : ∀ b, H b ≠ none → H' b ≠ none := fun b h => by
  cases q : H b with
  | none => exact absurd q h
  | some o => rw [x.k b o q]; simp
theorem New.fz (x : New G H G' H') : Fz G H G' H' := fun b o g h => ⟨x.k b o h, fun z => by
  rcases x.n b z with q | q
  · exact g q
  · rw [h] at q; cases q⟩
theorem New.ext (x : New G H G' H') : Ext G H G' H' σ env env :=
  ⟨fun b o h _ => x.k b o h, x.dom, x.n, fun b h _ => x.g b h, fun _ h => h⟩
theorem SlR.new {v : V} {s : Sl} (x : New G H G' H') (r : SlR mg G H v s) : SlR mg G' H' v s := by
  cases s with
  | no => trivial
  | im d => exact Dn.keep x.fz r
  | ol ds => obtain ⟨a, e, g, o⟩ := r; exact ⟨a, e, x.g a g, o.keep x.fz fun u q => x.k a u q⟩
  | odk ds => obtain ⟨a, e, g, o⟩ := r; exact ⟨a, e, x.g a g, o.keep x.fz fun u q => x.k a u q⟩
  | odt ds => obtain ⟨a, e, g, o⟩ := r; exact ⟨a, e, x.g a g, o.keep x.fz fun u q => x.k a u q⟩
theorem ER.dom0 (E : ER B mg G H σ env) {b : Addr} (h : H b = none) : B.H0 b = none := by
  cases q : B.H0 b with
  | none => rfl
  | some o => exact absurd h (E.f2 b (by rw [q]; simp))
theorem ER.new (E : ER B mg G H σ env) (x : New G H G' H') : ER B mg G' H' σ env where
  len := E.len
  sl := fun i s e n => by
    obtain ⟨v, h, r⟩ := E.sl i s e n
    exact ⟨v, h, r.new x⟩
  ds := E.ds
  io := E.io
  f1 := fun b o h n => x.k b o (E.f1 b o h n)
  f2 := fun b h => x.dom b (E.f2 b h)
  f3 := fun b h => by
    rcases x.n b h with z | z
    · exact E.f3 b z
    · exact .inr (E.dom0 z)
  f4 := fun b h => x.g b (E.f4 b h)
  f5 := E.f5
  gt := x.t
  g0 := E.g0
  lb := x.lb E.lb
/-- a new thing at p that is not guarded -/
theorem New.upd {p : Addr} {o : HO} (t : ∀ b, G b → H b ≠ none) (hp : H p = none) (f : Fits o) : New G H G (upd H p o) :=
  ⟨fun b u h => by rw [upd_ne (ne_of_none h hp)]; exact h, fun _ h => .inl h, fun _ h => h, fun b h => by
    by_cases e : b = p
    · subst e; rw [upd_same]; simp
    · rw [upd_ne e]; exact t b h, fun h => h.upd f fun g => absurd hp (t p g)⟩
/-- .. that is guarded -/
theorem New.updG {p : Addr} {o : HO} (t : ∀ b, G b → H b ≠ none) (hp : H p = none) (f : Fits o) (nt : ∀ xs, o ≠ .tup xs := by intro xs h; cases h) : New G H (fun b => G b ∨ b = p) (L2.upd H p o) :=
  ⟨fun b u h => by rw [upd_ne (ne_of_none h hp)]; exact h, fun b h => h.elim .inl fun e => .inr (by rw [e]; exact hp), fun _ h => .inl h, fun b h => by
    by_cases e : b = p
    · subst e; rw [upd_same]; simp
    · rw [upd_ne e]
      rcases h with h | h
      · exact t b h
      · exact absurd h e, fun h => ⟨(h.upd f fun g => absurd hp (t p g)).1, fun b g xs q => by
    by_cases e : b = p
    · subst e
      rw [upd_same] at q
      cases q
      exact nt xs rfl
    · rw [upd_ne e] at q
      rcases g with g | g
      · exact h.2 b g xs q
      · exact absurd g e⟩⟩

/-! ### views -/
def view (env : En) : Rf → Option Sl
  | .im d => some (.im d)
  | .var j => match env[j]? with
    | some .no => none
    | x => x
  | .tmp s => some s
/-- a value by its content -/
def VR (mg : MG) (G : AP) (H : Hp) (v : V) : Sl → Prop
  | .no => False
  | .im d => Dn mg G H v d
  | s => ∃ a, v = .ref a ∧ OwR mg G H a s
theorem VR.of_tmp {a : Addr} {s : Sl} (h : OwR mg G H a s) : VR mg G H (.ref a) s := by
  cases s <;> first | exact ⟨a, rfl, h⟩ | exact h.elim
theorem VR.of_sl {v : V} {s : Sl} (h : SlR mg G H v s) (n : s ≠ .no) : VR mg G H v s := by
  cases s with
  | no => exact absurd rfl n
  | im d => exact h
  | ol ds => obtain ⟨a, e, _, o⟩ := h; exact ⟨a, e, o⟩
  | odk ds => obtain ⟨a, e, _, o⟩ := h; exact ⟨a, e, o⟩
  | odt ds => obtain ⟨a, e, _, o⟩ := h; exact ⟨a, e, o⟩
theorem RfR.view (E : ER B mg G H σ env) {v : V} {x : Rf} {s : Sl} (r : RfR mg Hb G H σ env v x) (h : PL.view env x = some s) : VR mg G H v s := by
  cases x with
  | im d => cases h; exact r
  | tmp s' => cases h; obtain ⟨a, rfl, t, _⟩ := r; exact .of_tmp t.r
  | var j =>
    have r : σ[j]? = some (some v) := r
    have h : (match env[j]? with | some Sl.no => none | x => x) = some s := h
    have h2 : env[j]? = some s ∧ s ≠ .no := by
      cases e : env[j]? with
      | none => rw [e] at h; cases h
      | some u =>
        rw [e] at h
        cases u <;> first | (cases h; done) | (cases h; exact ⟨rfl, by simp⟩)
    obtain ⟨v', hv, q⟩ := E.sl j s h2.1 h2.2
    rw [hv] at r
    cases r
    exact .of_sl q h2.2
theorem RfR.ext {v : V} {x : Rf} (E : ER B mg G1 H1 σ env1) (r : RfR mg Hb G1 H1 σ env1 v x) (e : Ext G1 H1 G2 H2 σ env1 env2) : RfR mg Hb G2 H2 σ env2 v x := by
  cases x with
  | im d => exact Dn.keep (e.fz E) r
  | var j => exact r
  | tmp s => obtain ⟨a, h, t, n⟩ := r; exact ⟨a, h, t.ext n E e, fun z => n (e.e5 a z)⟩
theorem RfR.back {Hb' : Hp} {v : V} {x : Rf} (h : ∀ b, Hb b ≠ none → Hb' b ≠ none) (r : RfR mg Hb' G H σ env v x) : RfR mg Hb G H σ env v x := back_V Hb Hb' G H σ env v x h r
theorem VR.new {v : V} {s : Sl} (x : New G H G' H') (r : VR mg G H v s) : VR mg G' H' v s := by
  cases s with
  | no => exact r.elim
  | im d => exact Dn.keep x.fz r
  | ol ds => obtain ⟨a, e, o⟩ := r; exact ⟨a, e, o.keep x.fz fun u q => x.k a u q⟩
  | odk ds => obtain ⟨a, e, o⟩ := r; exact ⟨a, e, o.keep x.fz fun u q => x.k a u q⟩
  | odt ds => obtain ⟨a, e, o⟩ := r; exact ⟨a, e, o.keep x.fz fun u q => x.k a u q⟩
/-- the result of an operation: nothing of the frame's -/
def ZR (mg : MG) (Hb : Hp) (G : AP) (H : Hp) (v : V) : Rf → Prop
  | .im d => Dn mg G H v d
  | .var _ => False
  | .tmp s => ∃ a, v = .ref a ∧ TmpAt mg Hb G H a s
theorem ZR.rf (E : ER B mg G H σ env) {v : V} {z : Rf} (h : ZR mg H G' H' v z) : RfR mg H G' H' σ env v z := by
  cases z with
  | im d => exact h
  | var j => exact h.elim
  | tmp s => obtain ⟨a, e, t⟩ := h; exact ⟨a, e, t, fun z => E.ow_there z t.new⟩
end

/-! ### the judgements -/
section
variable (X : Cx) (W : WX) (B : Bs)
structure XE (e : Expr) (m : M Rf) : Prop where
  ex : ∃ t : TE, PE X e t ∧ Imp B X.ct W (rV X.ct) t m
structure XT (e : Expr) (m : M Bool) : Prop where
  ex : ∃ t : TT, PT X e t ∧ Imp B X.ct W rB t m
structure XW (e : Expr) (m : M Bool) : Prop where
  ex : ∃ t : TT, PW X e t ∧ Imp B X.ct W rB t m
/-- an operation on values -/
def Op2Ok (f : Value → Value → Sem Value) (g : Sl → Sl → Option Rf) : Prop := ∃ r : R2, OpR X f r ∧
  ∀ G H x y sx sy z Q, (∀ b, G b → H b ≠ none) → LB G H → VR X.ct G H x sx → VR X.ct G H y sy → g sx sy = some z → (∀ G' H' v, New G H G' H' → ZR X.ct H G' H' v z → Q v H') → r x y H Q
def Op1Ok (f : Value → Sem Value) (g : Sl → Option Rf) : Prop := ∃ r : V → Hp → VK → Prop, UnR X f r ∧
  ∀ G H x sx z Q, (∀ b, G b → H b ≠ none) → LB G H → VR X.ct G H x sx → g sx = some z → (∀ G' H' v, New G H G' H' → ZR X.ct H G' H' v z → Q v H') → r x H Q
inductive VRs (mg : MG) (G : AP) (H : Hp) : List V → List Sl → Prop
  | nil : VRs mg G H [] []
  | cons {v : V} {vs : List V} {s : Sl} {ss : List Sl} : VR mg G H v s → VRs mg G H vs ss → VRs mg G H (v :: vs) (s :: ss)
def CallOk (f : Value) (g : List Sl → Option Rf) : Prop := ∃ r : List V → Hp → VK → Prop, CallR X f r ∧
  ∀ G H xs ss z Q, (∀ b, G b → H b ≠ none) → LB G H → VRs X.ct G H xs ss → g ss = some z → (∀ G' H' v, New G H G' H' → ZR X.ct H G' H' v z → Q v H') → r xs H Q
end
def opv2 (g : Sl → Sl → Option Rf) (x y : Rf) : M Rf := fun env => match view env x, view env y with
  | some sx, some sy => (match g sx sy with
    | some z => .ok z env
    | none => .stuck)
  | _, _ => .stuck
def opv1 (g : Sl → Option Rf) (x : Rf) : M Rf := fun env => match view env x with
  | some sx => (match g sx with
    | some z => .ok z env
    | none => .stuck)
  | _ => .stuck
def mOp2 (g : Sl → Sl → Option Rf) (ma mb : M Rf) : M Rf := ma.bind fun x => mb.bind fun y => opv2 g x y
def mOp1 (g : Sl → Option Rf) (ma : M Rf) : M Rf := ma.bind fun x => opv1 g x
def mVar (i : Nat) : M Rf := fun env => match env[i]? with
  | none => .stuck
  | some .no => .stuck
  | some (.im d) => .ok (.im d) env
  | some _ => .ok (.var i) env
def mK (d : D) : M Rf := fun env => .ok (.im d) env
section
variable {X : Cx} {W : WX} {B : Bs} {a b e : Expr} {ma mb m : M Rf} {pos : Pos}
theorem XE.by_ {t : TE} (h : PE X e t) (i : Imp B X.ct W (rV X.ct) t m) : XE X W B e m := ⟨⟨t, h, i⟩⟩
/-- a name -/
theorem xv (i : Nat) {x : Str} (hN : X.N[i]? = some x := by rfl) (hv : Vis X.env.scope x := by first | exact Or.inl rfl | exact Or.inr (Or.inl rfl) | exact Or.inr (Or.inr rfl)) (hd : (x == ("__debug__" : Str)) = false := by decide)
    (hcd : (x == ("__classdict__" : Str)) = false := by decide) : XE X W B (.Name x pos) (mVar i) := by
  refine .by_ (pe_var (i := i) hN hv hd hcd) fun G H σ env Q E p => ?_
  unfold mVar at p
  split at p
  · exact p.elim
  · exact p.elim
  · rename_i d h
    obtain ⟨v, hv, r⟩ := E.sl i _ h (by simp)
    exact ⟨v, hv, p G H v E r Ext.refl⟩
  · rename_i s hn _ h
    obtain ⟨v, hv, r⟩ := E.sl i _ h (fun z => hn z)
    exact ⟨v, hv, p G H v E hv Ext.refl⟩
theorem imp_K {v : V} {d : D} (h : ∀ G H, Dn X.ct G H v d) : Imp B X.ct W (rV X.ct) (tC v) (mK d) := fun G H σ env Q E p => p G H v E (h G H) Ext.refl
theorem xint {i : Int} {j : Nat} : XE X W B (.Constant (.int i) j pos) (mK (.int i)) := .by_ pe_int (imp_K fun _ _ => .int i)
theorem xbl {i : Bool} {j : Nat} : XE X W B (.Constant (.bool i) j pos) (mK (.bool i)) := .by_ pe_bl (imp_K fun _ _ => .bl i)
theorem xnon {j : Nat} : XE X W B (.Constant .none j pos) (mK .none) := .by_ pe_non (imp_K fun _ _ => .non)
theorem xstr {i : Str} {j : Nat} : XE X W B (.Constant (.str i) j pos) (mK (.str i)) := .by_ pe_str (imp_K fun _ _ => .str i)
/-- a module's int -/
theorem xgi {x : Str} {i : Int} {t : Tok} (hg : Gl X x) (hm : X.mg x = some (.int i t)) (hd : (x == ("__debug__" : Str)) = false := by decide) : XE X W B (.Name x pos) (mK (.int i)) :=
  .by_ (pe_glob (v := .int i) hg hm ⟨_, rfl⟩ hd) (imp_K fun _ _ => .int i)
/-- a def as a value -/
def fnD (x : Str) : D := .dict [(.str x, .none)]
theorem xgf {x : Str} {a : Addr} (hg : Gl X x) (hm : X.mg x = some (.ref a)) (hd : (x == ("__debug__" : Str)) = false := by decide) : XE X W B (.Name x pos) (mK (fnD x)) :=
  .by_ (pe_glob (v := .ref a) hg hm rfl hd) (imp_K fun _ _ => .fn hm)
theorem imp_op2 {f : Value → Value → Sem Value} {g : Sl → Sl → Option Rf} {r : R2} {ta tb : TE} (ia : Imp B X.ct W (rV X.ct) ta ma) (ib : Imp B X.ct W (rV X.ct) tb mb)
    (ho : ∀ G H x y sx sy z Q, (∀ b, G b → H b ≠ none) → LB G H → VR X.ct G H x sx → VR X.ct G H y sy → g sx sy = some z → (∀ G' H' v, New G H G' H' → ZR X.ct H G' H' v z → Q v H') → r x y H Q) :
    Imp B X.ct W (rV X.ct) (tOp r ta tb) (mOp2 g ma mb) := fun G H σ env Q E p => by
  refine ia.run E Ext.refl p fun x y env1 G1 H1 _ E1 r1 _ x1 p => ?_
  refine ib.run E1 x1 p fun x' y' env2 G2 H2 _ E2 r2 e2 x2 p => ?_
  have r1 := r1.ext E1 e2
  unfold opv2 at p
  split at p
  · rename_i sx sy h1 h2
    split at p
    · rename_i z hz
      exact ho G2 H2 x x' sx sy z Q E2.gt E2.lb (r1.view E2 h1) (r2.view E2 h2) hz fun G' H' v n zr => p G' H' v (E2.new n) ((ZR.rf E2 zr).back x2.e2) (x2.trans n.ext)
    · exact p.elim
  · exact p.elim
theorem xop2 {op : Operator} {g : Sl → Sl → Option Rf} (ho : Op2Ok X (binaryOp op) g) (ha : XE X W B a ma) (hb : XE X W B b mb) : XE X W B (.BinOp a op b pos) (mOp2 g ma mb) := by
  obtain ⟨r, h, hr⟩ := ho
  obtain ⟨⟨ta, pa, ia⟩⟩ := ha
  obtain ⟨⟨tb, pb, ib⟩⟩ := hb
  exact .by_ (pe_op h pa pb) (imp_op2 (f := binaryOp op) ia ib hr)
theorem xcmp {op : CmpOp} {g : Sl → Sl → Option Rf} (ho : Op2Ok X (compareOp op) g) (ha : XE X W B a ma) (hb : XE X W B b mb) (hm : behindInMarks op b = false := by first | exact nomark _ | rfl) : XE X W B (.Compare a [op] [b] pos) (mOp2 g ma mb) := by
  obtain ⟨r, h, hr⟩ := ho
  obtain ⟨⟨ta, pa, ia⟩⟩ := ha
  obtain ⟨⟨tb, pb, ib⟩⟩ := hb
  exact .by_ (pe_cmpR h pa pb hm) (imp_op2 (f := compareOp op) ia ib hr)
theorem xix {g : Sl → Sl → Option Rf} {r : R2} (h : IxR X r) (hr : ∀ G H x y sx sy z Q, (∀ b, G b → H b ≠ none) → LB G H → VR X.ct G H x sx → VR X.ct G H y sy → g sx sy = some z → (∀ G' H' v, New G H G' H' → ZR X.ct H G' H' v z → Q v H') → r x y H Q)
    (ha : XE X W B a ma) (hb : XE X W B b mb) (hs : PlainIx b := by exact fun _ _ => rfl) : XE X W B (.Subscript a b pos) (mOp2 g ma mb) := by
  obtain ⟨⟨ta, pa, ia⟩⟩ := ha
  obtain ⟨⟨tb, pb, ib⟩⟩ := hb
  exact .by_ (pe_ix h pa pb hs) (imp_op2 (f := fun _ _ => pure .none) ia ib hr)
theorem xun {op : UnaryOp} {g : Sl → Option Rf} (ho : Op1Ok X (unaryOp op) g) (ha : XE X W B a ma) : XE X W B (.UnaryOp op a pos) (mOp1 g ma) := by
  obtain ⟨r, h, hr⟩ := ho
  obtain ⟨⟨ta, pa, ia⟩⟩ := ha
  refine .by_ (pe_un h pa) fun G H σ env Q E p => ?_
  refine ia.run E Ext.refl p fun x y env1 G1 H1 _ E1 r1 _ x1 p => ?_
  unfold opv1 at p
  split at p
  · rename_i sx h1
    split at p
    · rename_i z hz
      exact hr G1 H1 x sx z Q E1.gt E1.lb (r1.view E1 h1) hz fun G' H' v n zr => p G' H' v (E1.new n) ((ZR.rf E1 zr).back x1.e2) (x1.trans n.ext)
    · exact p.elim
  · exact p.elim
end
end PL

set_option maxRecDepth 100000
namespace PL
open PySem PySem.Spec PyProof.Rows L2

section
variable {B : Bs} {mg : MG} {G G' G1 G2 Gb : AP} {H H' H1 H2 Hb : Hp} {σ : St} {env env' env1 env2 envb : En}
/-- one address less is guarded: no name owns it -/
theorem ER.thaw {a : Addr} (E : ER B mg G H σ env) (hn : ¬ Ow σ env a) (h0 : B.H0 a = none) : ER B mg (fun b => G b ∧ b ≠ a) H σ env where
  len := E.len
  sl := fun i s e n => by
    obtain ⟨v, h, r⟩ := E.sl i s e n
    refine ⟨v, h, ?_⟩
    have fz : Fz G H (fun b => G b ∧ b ≠ a) H := fun b o g h => ⟨h, fun z => g z.1⟩
    have go : s.own = true → SlR mg (fun b => G b ∧ b ≠ a) H v s := fun ho => by
      obtain ⟨c, rfl, g, o⟩ := r.of_own ho
      exact .mk_own ⟨g, fun z => hn ⟨i, s, e, ho, by rw [h, z]⟩⟩ (o.keep fz fun _ q => q)
    cases s with
    | no => exact absurd rfl n
    | im d => exact Dn.keep fz r
    | ol ds => exact go rfl
    | odk ds => exact go rfl
    | odt ds => exact go rfl
  ds := E.ds
  io := E.io
  f1 := E.f1
  f2 := E.f2
  f3 := fun b h => E.f3 b h.1
  f4 := fun b h => ⟨E.f4 b h, fun z => E.g0 b h (by rw [z]; exact h0)⟩
  f5 := E.f5
  gt := fun b h => E.gt b h.1
  g0 := E.g0
  lb := E.lb.le fun _ h => h.1
theorem getElem?_set_cases {α : Type} {l : List α} {j i : Nat} {x y : α} (h : (l.set j x)[i]? = some y) : (i = j ∧ y = x) ∨ (i ≠ j ∧ l[i]? = some y) := by
  by_cases e : j = i
  · subst e
    by_cases hl : j < l.length
    · rw [List.getElem?_set_self hl] at h
      exact .inl ⟨rfl, (Option.some.inj h).symm⟩
    · rw [List.getElem?_eq_none (by simpa using hl)] at h
      cases h
  · rw [List.getElem?_set_ne e] at h
    exact .inr ⟨Ne.symm e, h⟩
theorem Ow.set {j : Nat} {s : Sl} (hs : s.own = false) {b : Addr} (h : Ow σ (env.set j s) b) : Ow σ env b := by
  obtain ⟨i, t, e, o, q⟩ := h
  rcases getElem?_set_cases e with ⟨_, z⟩ | ⟨_, z⟩
  · rw [z, hs] at o; cases o
  · exact ⟨i, t, z, o, q⟩
/-- an owned object as a value that may be kept anywhere -/
def dkD (kvs : List (Key × D)) : D := .dict ((.bool false, .none) :: kvs.map fun p => (kD p.1, p.2))
def dtD (kvs : List (List Key × D)) : D := .dict ((.bool true, .none) :: kvs.map fun p => (.tuple (p.1.map kD), p.2))
def frzD : Sl → Option D
  | .ol ds => some (.list ds)
  | .odk kvs => some (dkD kvs)
  | .odt kvs => some (dtD kvs)
  | _ => none
theorem frzD_own {s : Sl} {d : D} (h : frzD s = some d) : s.own = true := by cases s <;> first | rfl | cases h
theorem KvR.keys {κ : Type} : ∀ {ks : List (κ × V)} {kvs : List (κ × D)}, KvR mg G H ks kvs → ks.map (·.1) = kvs.map (·.1) ∧ DnA mg G H (ks.map (·.2)) (kvs.map (·.2)) ∧ ks.length = kvs.length
  | _, _, .nil => ⟨rfl, .nil, rfl⟩
  | _, _, .cons a b => by
    obtain ⟨h1, h2, h3⟩ := KvR.keys b
    simp only [List.map_cons, List.length_cons]
    exact ⟨by rw [a.1, h1], .cons a.2 h2, by rw [h3]⟩
theorem OwR.frz {a : Addr} {s : Sl} {d : D} (r : OwR mg G H a s) (f : Fz G H G' H) (n : ¬ G' a) (h : frzD s = some d) : Dn mg G' H (.ref a) d := by
  cases s with
  | no => cases h
  | im d => cases h
  | ol ds => cases h; obtain ⟨xs, hx, hd⟩ := r; exact .lst n hx (hd.keep f)
  | odk kvs => cases h; obtain ⟨ks, hx, hd⟩ := r; exact .dk n (.inl hx) (KvR.keys hd).1 ((KvR.keys hd).2.1.keep f) rfl
  | odt kvs => cases h; obtain ⟨ks, hx, hd⟩ := r; exact .dt n (.inl hx) (KvR.keys hd).1 ((KvR.keys hd).2.1.keep f) rfl
/-- an owned name is shared from now on -/
theorem ER.share {j : Nat} {v : V} {s0 : Sl} {d0 : D} (E : ER B mg G H σ env) (he : env[j]? = some s0) (hf : frzD s0 = some d0) (hv : σ[j]? = some (some v)) (hj : B.np ≤ j) :
    ∃ a, v = .ref a ∧ Ow σ env a ∧ ER B mg (fun b => G b ∧ b ≠ a) H σ (env.set j (.im d0)) ∧ Dn mg (fun b => G b ∧ b ≠ a) H v d0 ∧ B.H0 a = none := by
  have so := frzD_own hf
  obtain ⟨v', hv', r⟩ := E.sl j _ he (by rintro rfl; cases so)
  rw [hv] at hv'
  cases hv'
  obtain ⟨a, rfl, g, r0⟩ := r.of_own so
  have ow : Ow σ env a := ⟨j, _, he, so, hv⟩
  have nio : ∀ p ∈ B.io, p.1 ≠ j := fun p hp z => by
    have q := (E.io p hp).1
    omega
  have h0 : B.H0 a = none := by
    rcases E.f5 j _ a he so hv with ⟨p, hp, z⟩ | z
    · exact absurd z (nio p hp)
    · exact z
  have fz : Fz G H (fun b => G b ∧ b ≠ a) H := fun b o g h => ⟨h, fun z => g z.1⟩
  have dn : Dn mg (fun b => G b ∧ b ≠ a) H (.ref a) d0 := r0.frz fz (fun z => z.2 rfl) hf
  have jl : j < env.length := (List.getElem?_eq_some_iff.mp he).1
  refine ⟨a, rfl, ow, ⟨by rw [List.length_set]; exact E.len, fun i s e n => ?_, fun i k s s' b h1 o1 h2 o2 => ?_, fun p hp => ?_, E.f1, E.f2, fun b h => E.f3 b h.1, fun b h => ⟨E.f4 b h, fun z => E.g0 b h (by rw [z]; exact h0)⟩, fun i s b h1 o1 => ?_, fun b h => E.gt b h.1, E.g0, E.lb.le fun _ h => h.1⟩, dn, h0⟩
  · rcases getElem?_set_cases e with ⟨z, y⟩ | ⟨z, y⟩
    · subst z y
      exact ⟨_, hv, dn⟩
    · obtain ⟨v, h, r⟩ := E.sl i s y n
      refine ⟨v, h, ?_⟩
      have go : s.own = true → SlR mg (fun b => G b ∧ b ≠ a) H v s := fun ho => by
        obtain ⟨c, rfl, g, o⟩ := r.of_own ho
        exact .mk_own ⟨g, fun q => z (E.ds i j s _ a y ho he so (by rw [h, q]) hv)⟩ (o.keep fz fun _ q => q)
      cases s with
      | no => exact absurd rfl n
      | im d => exact Dn.keep fz r
      | ol ds => exact go rfl
      | odk ds => exact go rfl
      | odt ds => exact go rfl
  · rcases getElem?_set_cases h1 with ⟨_, y⟩ | ⟨_, y⟩
    · rw [y] at o1; cases o1
    · rcases getElem?_set_cases h2 with ⟨_, y'⟩ | ⟨_, y'⟩
      · rw [y'] at o2; cases o2
      · exact E.ds i k s s' b y o1 y' o2
  · obtain ⟨q1, q2, s, q3, q4⟩ := E.io p hp
    exact ⟨q1, q2, s, by rw [List.getElem?_set_ne (Ne.symm (nio p hp))]; exact q3, q4⟩
  · rcases getElem?_set_cases h1 with ⟨_, y⟩ | ⟨_, y⟩
    · rw [y] at o1; cases o1
    · exact E.f5 i s b y o1
end
/-- a value that may be kept anywhere: a temporary list, a name's own list are shared from now on (np: the number of parameters) -/
def toI (np : Nat) : Rf → M D
  | .im d => fun env => .ok d env
  | .tmp (.ol ds) => fun env => .ok (.list ds) env
  | .tmp (.odk kvs) => fun env => .ok (dkD kvs) env
  | .tmp (.odt kvs) => fun env => .ok (dtD kvs) env
  | .var j => fun env => (match env[j]? with
    | some (.im d) => .ok d env
    | some (.ol ds) => if np ≤ j then .ok (.list ds) (env.set j (.im (.list ds))) else .stuck
    | some (.odk kvs) => if np ≤ j then .ok (dkD kvs) (env.set j (.im (dkD kvs))) else .stuck
    | some (.odt kvs) => if np ≤ j then .ok (dtD kvs) (env.set j (.im (dtD kvs))) else .stuck
    | _ => .stuck)
  | _ => fun _ => .stuck
section
variable {B : Bs} {mg : MG} {G G' G1 G2 Gb : AP} {H H' H1 H2 Hb : Hp} {σ : St} {env env' env1 env2 envb : En}
/-- guards fall: at a name's own list, or at the temporary's -/
structure Thaw (σ : St) (env : En) (v : V) (x : Rf) (G G' : AP) : Prop where
  le : ∀ b, G' b → G b
  at_ : ∀ b, G b → ¬ G' b → Ow σ env b ∨ (v = .ref b ∧ ∃ s, x = .tmp s)
theorem Thaw.refl {v : V} {x : Rf} : Thaw σ env v x G G := ⟨fun _ h => h, fun _ h n => absurd h n⟩
theorem Thaw.fz {v : V} {x : Rf} (t : Thaw σ env v x G G') : Fz G H G' H := fun b o g h => ⟨h, fun z => g (t.le b z)⟩
theorem drop_at {a b : Addr} (h : G b) (n : ¬ (G b ∧ b ≠ a)) : b = a := by
  by_cases e : b = a
  · exact e
  · exact absurd ⟨h, e⟩ n
theorem toI_ok {np : Nat} {x : Rf} {v : V} {d : D} (tb : ∀ b, Gb b → Hb b ≠ none) (h0 : ∀ b, B.H0 b ≠ none → Hb b ≠ none) (E : ER B mg G H σ env) (x0 : Ext Gb Hb G H σ envb env) (r : RfR mg Hb G H σ env v x) (hnp : B.np ≤ np) (h : toI np x env = .ok d env') :
    ∃ G', ER B mg G' H σ env' ∧ Dn mg G' H v d ∧ Ext Gb Hb G' H σ envb env' ∧ Thaw σ env v x G G' ∧ ∀ b, Ow σ env' b → Ow σ env b := by
  have triv : ∀ d', Dn mg G H v d' → d' = d → env = env' → ∃ G', ER B mg G' H σ env' ∧ Dn mg G' H v d ∧ Ext Gb Hb G' H σ envb env' ∧ Thaw σ env v x G G' ∧ ∀ b, Ow σ env' b → Ow σ env b := by
    rintro d' q rfl rfl
    exact ⟨G, E, q, x0, .refl, fun _ z => z⟩
  cases x with
  | im d' => cases h; exact triv _ r rfl rfl
  | tmp s =>
    have go : ∀ d', frzD s = some d' → d' = d → env = env' → ∃ G', ER B mg G' H σ env' ∧ Dn mg G' H v d ∧ Ext Gb Hb G' H σ envb env' ∧ Thaw σ env v (.tmp s) G G' ∧ ∀ b, Ow σ env' b → Ow σ env b := by
      rintro d' hf rfl rfl
      obtain ⟨a, rfl, t, n⟩ := r
      refine ⟨fun b => G b ∧ b ≠ a, E.thaw n ?_, t.r.frz (fun b o g h => ⟨h, fun z => g z.1⟩) (fun z => z.2 rfl) hf, ⟨x0.e1, x0.e2, fun b z => x0.e3 b z.1, fun b z m => ⟨x0.e4 b z m, fun q => tb b z (by rw [q]; exact t.new)⟩, x0.e5⟩, ⟨fun _ h => h.1, fun b h n => .inr ⟨by rw [drop_at h n], _, rfl⟩⟩, fun _ z => z⟩
      cases q : B.H0 a with
      | none => rfl
      | some o => exact absurd t.new (h0 a (by rw [q]; simp))
    cases s with
    | ol ds => cases h; exact go _ rfl rfl rfl
    | no => cases h
    | im d => cases h
    | odk k => cases h; exact go _ rfl rfl rfl
    | odt k => cases h; exact go _ rfl rfl rfl
  | var j =>
    have h : (match env[j]? with
      | some (.im d) => .ok d env
      | some (.ol ds) => if np ≤ j then .ok (.list ds) (env.set j (.im (.list ds))) else .stuck
      | some (.odk kvs) => if np ≤ j then .ok (dkD kvs) (env.set j (.im (dkD kvs))) else .stuck
      | some (.odt kvs) => if np ≤ j then .ok (dtD kvs) (env.set j (.im (dtD kvs))) else .stuck
      | _ => .stuck : Res D) = .ok d env' := h
    have r : σ[j]? = some (some v) := r
    have go : ∀ s d', env[j]? = some s → frzD s = some d' → np ≤ j → d' = d → env.set j (.im d') = env' → ∃ G', ER B mg G' H σ env' ∧ Dn mg G' H v d ∧ Ext Gb Hb G' H σ envb env' ∧ Thaw σ env v (.var j) G G' ∧ ∀ b, Ow σ env' b → Ow σ env b := by
      rintro s d' e hf hj rfl rfl
      obtain ⟨a, rfl, ow, E', dn, z0⟩ := E.share e hf r (Nat.le_trans hnp hj)
      have ow' : ∀ b, Ow σ (env.set j (.im d')) b → Ow σ env b := fun b z => Ow.set rfl z
      exact ⟨_, E', dn, ⟨x0.e1, x0.e2, fun b z => x0.e3 b z.1, fun b z m => ⟨x0.e4 b z m, fun q => m (x0.e5 b (by rw [q]; exact ow))⟩, fun b z => x0.e5 b (ow' b z)⟩, ⟨fun _ h => h.1, fun b h n => .inl (by rw [drop_at h n]; exact ow)⟩, ow'⟩
    split at h
    · rename_i d' e
      cases h
      obtain ⟨v', hv, q⟩ := E.sl j _ e (by simp)
      rw [hv] at r
      cases r
      exact triv _ q rfl rfl
    · rename_i ds e
      split at h
      · rename_i hj
        cases h
        exact go _ _ e rfl hj rfl rfl
      · cases h
    · rename_i ds e
      split at h
      · rename_i hj
        cases h
        exact go _ _ e rfl hj rfl rfl
      · cases h
    · rename_i ds e
      split at h
      · rename_i hj
        cases h
        exact go _ _ e rfl hj rfl rfl
      · cases h
    · cases h
end

/-! ### argument lists -/
/-- the places of temporaries lie apart -/
inductive RfA (mg : MG) (Hb : Hp) (G : AP) (H : Hp) (σ : St) (env : En) : List V → List Rf → Prop
  | nil : RfA mg Hb G H σ env [] []
  | cons {v : V} {vs : List V} {x : Rf} {xs : List Rf} : RfR mg Hb G H σ env v x → (∀ s, x = .tmp s → ∀ (i : Nat) s', xs[i]? = some (.tmp s') → vs[i]? ≠ some v) → RfA mg Hb G H σ env vs xs → RfA mg Hb G H σ env (v :: vs) (x :: xs)
abbrev rA (mg : MG) : Rl (List V) (List Rf) := fun Hb G H σ env vs xs => RfA mg Hb G H σ env vs xs
section
variable {B : Bs} {mg : MG} {G G' G1 G2 Gb : AP} {H H' H1 H2 Hb : Hp} {σ : St} {env env' env1 env2 envb : En}
theorem RfA.imp {Hb' : Hp} {G' : AP} {H' : Hp} {env' : En} : ∀ {vs : List V} {xs : List Rf}, (∀ v x, RfR mg Hb G H σ env v x → RfR mg Hb' G' H' σ env' v x) → RfA mg Hb G H σ env vs xs → RfA mg Hb' G' H' σ env' vs xs
  | _, _, _, .nil => .nil
  | _, _, f, .cons a n b => .cons (f _ _ a) n (RfA.imp f b)
theorem back_A : Back (rA mg) := fun Hb Hb' G H σ env vs xs h r => r.imp fun v x q => q.back h
theorem RfA.ext {vs : List V} {xs : List Rf} (E : ER B mg G1 H1 σ env1) (r : RfA mg Hb G1 H1 σ env1 vs xs) (e : Ext G1 H1 G2 H2 σ env1 env2) : RfA mg Hb G2 H2 σ env2 vs xs := r.imp fun _ _ q => q.ext E e
theorem RfA.length : ∀ {vs : List V} {xs : List Rf}, RfA mg Hb G H σ env vs xs → vs.length = xs.length
  | _, _, .nil => rfl
  | _, _, .cons _ _ b => by rw [List.length_cons, List.length_cons, RfA.length b]
theorem RfA.get : ∀ {vs : List V} {xs : List Rf} {i : Nat} {x : Rf}, RfA mg Hb G H σ env vs xs → xs[i]? = some x → ∃ v, vs[i]? = some v ∧ RfR mg Hb G H σ env v x
  | _, _, _, _, .nil, e => by simp at e
  | _, _, 0, _, .cons a _ r, e => by simp at e; subst e; exact ⟨_, rfl, a⟩
  | _, _, i + 1, _, .cons a _ r, e => by
    obtain ⟨v, h1, h2⟩ := RfA.get (i := i) r (by simpa using e)
    exact ⟨v, by simpa using h1, h2⟩
end
section
variable (X : Cx) (W : WX) (B : Bs)
structure XA (es : List Expr) (m : M (List Rf)) : Prop where
  ex : ∃ t : TA, PA X es t ∧ Imp B X.ct W (rA X.ct) t m
end
def mNil : M (List Rf) := fun env => .ok [] env
def mCons (m : M Rf) (r : M (List Rf)) : M (List Rf) := m.bind fun x => r.bind fun xs => fun env => .ok (x :: xs) env
section
variable {X : Cx} {W : WX} {B : Bs} {a b e : Expr} {es : List Expr} {ma mb m : M Rf} {ms : M (List Rf)} {pos : Pos}
theorem xa0 : XA X W B [] mNil := ⟨⟨_, pa_nil, fun G H σ env Q E p => p G H [] E .nil Ext.refl⟩⟩
theorem xa (ha : XE X W B e m) (hr : XA X W B es ms) (hs : starEach (e :: es) X.env = (false, eval e X.env) :: starEach es X.env := by rfl) : XA X W B (e :: es) (mCons m ms) := by
  obtain ⟨⟨ta, pa, ia⟩⟩ := ha
  obtain ⟨⟨tb, pb, ib⟩⟩ := hr
  refine ⟨⟨_, pa_cons pa pb hs, fun G H σ env Q E p => ?_⟩⟩
  refine ia.run E Ext.refl p fun v x env1 G1 H1 _ E1 r1 _ x1 p => ?_
  refine ib.run E1 x1 p fun vs xs env2 G2 H2 _ E2 r2 e2 x2 p => ?_
  refine p G2 H2 (v :: vs) E2 (.cons (r1.ext E1 e2) (fun s hx i s' hi hv => ?_) (back_A _ _ _ _ _ _ _ _ x1.e2 r2)) x2
  subst hx
  obtain ⟨a, rfl, t, _⟩ := r1
  obtain ⟨v', hv', a', rfl, t', _⟩ := r2.get hi
  rw [hv'] at hv
  cases hv
  exact t.r.there t'.new
end
/-- all of them shared -/
def toIs (np : Nat) : List Rf → M (List D)
  | [] => fun env => .ok [] env
  | x :: xs => M.bind (toI np x) fun d => M.bind (toIs np xs) fun ds env => .ok (d :: ds) env
theorem bind_ok_inv {α β : Type} {r : Res α} {f : α → M β} {y : β} {env' : En} (h : r.bind f = .ok y env') : ∃ x env1, r = .ok x env1 ∧ f x env1 = .ok y env' := by
  cases r with
  | ok x env1 => exact ⟨x, env1, rfl, h⟩
  | exn c e => cases h
  | stuck => cases h
section
variable {B : Bs} {mg : MG} {G G' G1 G2 Gb : AP} {H H' H1 H2 Hb : Hp} {σ : St} {env env' env1 env2 envb : En}
theorem toIs_ok {np : Nat} (tb : ∀ b, Gb b → Hb b ≠ none) (h0 : ∀ b, B.H0 b ≠ none → Hb b ≠ none) (hnp : B.np ≤ np) : ∀ {xs : List Rf} {vs : List V} {ds : List D} {G : AP} {env env' : En}, ER B mg G H σ env → Ext Gb Hb G H σ envb env → RfA mg Hb G H σ env vs xs →
    toIs np xs env = .ok ds env' → ∃ G', ER B mg G' H σ env' ∧ DnA mg G' H vs ds ∧ Ext Gb Hb G' H σ envb env' ∧ Fz G H G' H
  | [], _, _, G, env, env', E, x0, r, h => by
    cases r
    cases h
    exact ⟨G, E, .nil, x0, Fz.refl⟩
  | x :: xs, _, _, G, env, env', E, x0, r, h => by
    cases r with
    | cons r1 n r2 =>
      rename_i v vs
      obtain ⟨d, env1, h1, h⟩ := bind_ok_inv h
      obtain ⟨ds', env2, h2, h⟩ := bind_ok_inv h
      cases h
      obtain ⟨G1, E1, d1, x1, th, ow⟩ := toI_ok tb h0 E x0 r1 hnp h1
      have r2' : RfA mg Hb G1 H σ env1 vs xs := by
        -- what stands behind is another object
        have go : ∀ (vs : List V) (xs : List Rf), (∀ s, x = .tmp s → ∀ (i : Nat) s', xs[i]? = some (.tmp s') → vs[i]? ≠ some v) → RfA mg Hb G H σ env vs xs → RfA mg Hb G1 H σ env1 vs xs := by
          intro vs xs n r
          induction r with
          | nil => exact .nil
          | @cons w ws y ys q m rr ih =>
            refine .cons ?_ m (ih fun s hx i s' hi hv => n s hx (i + 1) s' (by simpa using hi) (by simpa using hv))
            cases y with
            | im d' => exact Dn.keep th.fz q
            | var j => exact q
            | tmp s' =>
              obtain ⟨a', rfl, t', no⟩ := q
              refine ⟨a', rfl, ⟨?_, t'.new, t'.r.keep th.fz fun _ z => z⟩, fun z => no (ow a' z)⟩
              by_cases g : G1 a'
              · exact g
              · rcases th.at_ a' t'.g g with z | ⟨z, s, z'⟩
                · exact absurd z no
                · exact absurd (congrArg some z.symm) (n s z' 0 s' rfl)
        exact go vs xs n r2
      obtain ⟨G2, E2, ds2, x2, fz2⟩ := toIs_ok tb h0 hnp E1 x1 r2' h2
      exact ⟨G2, E2, .cons (d1.keep fz2) ds2, x2, Fz.trans th.fz fz2⟩
end
end PL

set_option maxRecDepth 100000
namespace PL
open PySem PySem.Spec PyProof.Rows L2

/-! ### displays -/
def mTup (np : Nat) (ms : M (List Rf)) : M Rf := ms.bind fun xs => M.bind (toIs np xs) fun ds env => .ok (.im (.tuple ds)) env
def mLst (np : Nat) (ms : M (List Rf)) : M Rf := ms.bind fun xs => M.bind (toIs np xs) fun ds env => .ok (.tmp (.ol ds)) env
section
variable {B : Bs} {mg : MG} {G G' G1 G2 Gb : AP} {H H' H1 H2 Hb : Hp} {σ : St} {env env' env1 env2 envb : En}
/-- a further plain step of the function -/
theorem Post.inv {α β γ : Type} {R : Rl α γ} {W : WX} {r : Res β} {f : β → M γ} {Q : α → Hp → Prop} (p : Post B mg W R G H σ env (r.bind f) Q) (hx : ∀ c e, r ≠ .exn c e) : ∃ y e, r = .ok y e ∧ Post B mg W R G H σ env (f y e) Q := by
  cases r with
  | ok y e => exact ⟨y, e, rfl, p⟩
  | exn c e => exact absurd rfl (hx c e)
  | stuck => exact p.elim
theorem toI_nox {np : Nat} {x : Rf} {env : En} : ∀ c e, toI np x env ≠ .exn c e := fun c e h => by
  cases x with
  | im d => cases h
  | tmp s => cases s <;> cases h
  | var j =>
    unfold toI at h
    dsimp only at h
    split at h
    · cases h
    · split at h <;> cases h
    · split at h <;> cases h
    · split at h <;> cases h
    · cases h
theorem toIs_nox {np : Nat} : ∀ {xs : List Rf} {env : En} c e, toIs np xs env ≠ .exn c e
  | [], _, c, e, h => by cases h
  | x :: xs, env, c, e, h => by
    have h : (toI np x env).bind (fun d => M.bind (toIs np xs) fun ds env => .ok (d :: ds) env) = .exn c e := h
    cases q : toI np x env with
    | exn c' e' => exact toI_nox c' e' q
    | stuck => rw [q] at h; cases h
    | ok d e1 =>
      rw [q] at h
      have h : (toIs np xs e1).bind (fun ds env => .ok (d :: ds) env) = .exn c e := h
      cases q2 : toIs np xs e1 with
      | exn c' e' => exact toIs_nox c' e' q2
      | stuck => rw [q2] at h; cases h
      | ok ds e2 => rw [q2] at h; cases h
end
section
variable {X : Cx} {W : WX} {B : Bs} {a b c e : Expr} {es : List Expr} {ma mb mc m : M Rf} {ms : M (List Rf)} {pos : Pos} {np : Nat}
theorem RfA.len2 {ms : M (List Rf)} : True := trivial
theorem xtup {k : Nat} (h : XA X W B es ms) (hnp : B.np ≤ np) (hl : ∀ env xs env', ms env = .ok xs env' → xs.length ≤ sizeLine) : XE X W B (.Tuple es k pos) (mTup np ms) := by
  obtain ⟨⟨t, pt, it⟩⟩ := h
  refine .by_ (pe_tup pt) fun G H σ env Q E p => ?_
  refine it.run E Ext.refl p fun vs xs env1 G1 H1 hm E1 r1 _ x1 p => ?_
  obtain ⟨ds, env2, hd, p⟩ := Post.inv p toIs_nox
  obtain ⟨G2, E2, dn, x2, _⟩ := toIs_ok E.gt E.f2 hnp E1 x1 r1 hd
  have hz : vs.length ≤ sizeLine := by rw [r1.length]; exact hl _ _ _ hm
  refine ⟨hz, fun q hq => ?_⟩
  have n := New.upd (o := .tup vs) E2.gt hq hz
  exact p G2 _ (.ref q) (E2.new n) (.tup (fun g => E2.gt q g hq) upd_same (dn.keep n.fz)) (x2.trans n.ext)
theorem xlst (h : XA X W B es ms) (hnp : B.np ≤ np) (hl : ∀ env xs env', ms env = .ok xs env' → xs.length ≤ sizeLine) : XE X W B (.List es pos) (mLst np ms) := by
  obtain ⟨⟨t, pt, it⟩⟩ := h
  refine .by_ (pe_lst pt) fun G H σ env Q E p => ?_
  refine it.run E Ext.refl p fun vs xs env1 G1 H1 hm E1 r1 _ x1 p => ?_
  obtain ⟨ds, env2, hd, p⟩ := Post.inv p toIs_nox
  obtain ⟨G2, E2, dn, x2, _⟩ := toIs_ok E.gt E.f2 hnp E1 x1 r1 hd
  have hz : vs.length ≤ sizeLine := by rw [r1.length]; exact hl _ _ _ hm
  refine ⟨hz, fun q hq => ?_⟩
  have n := New.updG (o := .lst vs) E2.gt hq hz
  exact p _ _ (.ref q) (E2.new n) ⟨q, rfl, ⟨.inr rfl, back_none x2.e2 hq, vs, upd_same, dn.keep n.fz⟩, fun z => (E2.ow_there z) hq⟩ (x2.trans n.ext)
/-- how many -/
inductive Many : Nat → M (List Rf) → Prop
  | nil : Many 0 mNil
  | cons {n : Nat} {m : M Rf} {r : M (List Rf)} : Many n r → Many (n + 1) (mCons m r)
theorem Many.len {n : Nat} {ms : M (List Rf)} (h : Many n ms) : ∀ env xs env', ms env = .ok xs env' → xs.length = n := by
  induction h with
  | nil => intro env xs env' h; cases h; rfl
  | cons _ ih =>
    intro env xs env' h
    obtain ⟨x, e1, _, h⟩ := bind_ok_inv h
    obtain ⟨ys, e2, h2, h⟩ := bind_ok_inv h
    cases h
    rw [List.length_cons, ih _ _ _ h2]
theorem Many.le {n : Nat} {ms : M (List Rf)} (h : Many n ms) (hn : n ≤ 1000) : ∀ env xs env', ms env = .ok xs env' → xs.length ≤ sizeLine := fun env xs env' q => by
  rw [h.len _ _ _ q, sizeLine_eq]; omega

/-! ### tests -/
def truS : Sl → Option Bool
  | .im .none => some false
  | .im (.bool b) => some b
  | .im (.int i) => some (i != 0)
  | .im (.list ds) => some (!ds.isEmpty)
  | .im (.tuple ds) => some (!ds.isEmpty)
  | .ol ds => some (!ds.isEmpty)
  | _ => none
def mTru (m : M Rf) : M Bool := m.bind fun x env => match view env x with
  | some s => (match truS s with
    | some k => .ok k env
    | none => .stuck)
  | none => .stuck
/-- the value is a truth value -/
def mB (m : M Rf) : M Bool := m.bind fun x env => match x with
  | .im (.bool k) => .ok k env
  | _ => .stuck
theorem DnA.isEmpty {mg : MG} {G : AP} {H : Hp} {vs : List V} {ds : List D} (h : DnA mg G H vs ds) : vs.isEmpty = ds.isEmpty := by cases h <;> rfl
theorem tru_of {mg : MG} {G : AP} {H : Hp} {v : V} {s : Sl} {k : Bool} (h : VR mg G H v s) (e : truS s = some k) : TruV mg.K v H k := by
  cases s with
  | no => cases e
  | im d =>
    have h : Dn mg G H v d := h
    cases h with
    | non => cases e; rfl
    | bl b => cases e; rfl
    | int i => cases e; rfl
    | str x => cases e
    | lst g r a => cases e; exact .inl ⟨_, .inl (.inl r), by rw [a.isEmpty]⟩
    | scr g r a => cases e
    | lk r a => cases e
    | tup g r a => cases e; exact .inr (.inl ⟨_, .inl (.inl r), by rw [a.isEmpty]⟩)
    | fn _ => cases e
    | dk g r k a z => cases e
    | dt g r k a z => cases e
  | ol ds =>
    cases e
    obtain ⟨a, rfl, xs, hx, hd⟩ := h
    exact .inl ⟨_, .inl (.inl hx), by rw [hd.isEmpty]⟩
  | odk k => cases e
  | odt k => cases e
theorem xt (ha : XE X W B a m) (he : ∀ whole, isTrue a X.env whole = (do let v ← whole; standAt a.pos; holding [v] (truthy v)) := by exact fun _ => rfl) : XT X W B a (mTru m) := by
  obtain ⟨⟨ta, pa, ia⟩⟩ := ha
  refine ⟨⟨_, pt_truth pa he, fun G H σ env Q E p => ?_⟩⟩
  refine ia.run E Ext.refl p fun x y env1 G1 H1 _ E1 r1 _ x1 p => ?_
  split at p
  · rename_i s hs
    split at p
    · rename_i k hk
      exact ⟨k, tru_of (r1.view E1 hs) hk, p G1 H1 k E1 rfl x1⟩
    · exact p.elim
  · exact p.elim
theorem xt_cmp {op : CmpOp} {g : Sl → Sl → Option Rf} (ho : Op2Ok X (compareOp op) g) (ha : XE X W B a ma) (hb : XE X W B b mb) (hm : behindInMarks op b = false := by first | exact nomark _ | rfl) : XT X W B (.Compare a [op] [b] pos) (mB (mOp2 g ma mb)) := by
  obtain ⟨r, h, hr⟩ := ho
  obtain ⟨⟨ta, pa, ia⟩⟩ := ha
  obtain ⟨⟨tb, pb, ib⟩⟩ := hb
  refine ⟨⟨_, pt_cmpR h pa pb hm, fun G H σ env Q E p => ?_⟩⟩
  refine (imp_op2 (W := W) (f := compareOp op) ia ib hr).run E Ext.refl p fun x y env1 G1 H1 _ E1 r1 _ x1 p => ?_
  split at p
  · rename_i k hk
    have r1 : Dn X.ct G1 H1 x (.bool k) := r1
    cases r1
    exact ⟨k, rfl, p G1 H1 k E1 rfl x1⟩
  · exact p.elim
def mNot (m : M Bool) : M Bool := m.bind fun k env => .ok (!k) env
def mAnd (a b : M Bool) : M Bool := a.bind fun k => match k with
  | true => b
  | false => fun env => .ok false env
def mOr (a b : M Bool) : M Bool := a.bind fun k => match k with
  | true => fun env => .ok true env
  | false => b
variable {ta tb : M Bool} {rest : List Expr}
theorem xt_not (h : XT X W B a ta) : XT X W B (.UnaryOp .Not a pos) (mNot ta) := by
  obtain ⟨⟨t, pt, it⟩⟩ := h
  refine ⟨⟨_, pt_not pt, fun G H σ env Q E p => ?_⟩⟩
  refine it.run E Ext.refl p fun x y env1 G1 H1 _ E1 r1 _ x1 p => ?_
  subst r1
  exact p G1 H1 (!x) E1 rfl x1
theorem XW.xt (h : XW X W B a ta) : XT X W B a ta := by
  obtain ⟨⟨t, pt, it⟩⟩ := h
  exact ⟨⟨_, pt.pt, it⟩⟩
theorem xw_and1 (h : XT X W B a ta) : XW X W B (.BoolOp .And [a] pos) ta := by
  obtain ⟨⟨t, pt, it⟩⟩ := h
  exact ⟨⟨_, pw_and1 pt, it⟩⟩
theorem xw_or1 (h : XT X W B a ta) : XW X W B (.BoolOp .Or [a] pos) ta := by
  obtain ⟨⟨t, pt, it⟩⟩ := h
  exact ⟨⟨_, pw_or1 pt, it⟩⟩
theorem xw_and (h : XT X W B a ta) (h2 : XW X W B (.BoolOp .And (b :: rest) pos) tb) : XW X W B (.BoolOp .And (a :: b :: rest) pos) (mAnd ta tb) := by
  obtain ⟨⟨t, pt, it⟩⟩ := h
  obtain ⟨⟨u, pu, iu⟩⟩ := h2
  refine ⟨⟨_, pw_and pt pu, fun G H σ env Q E p => ?_⟩⟩
  refine it.run E Ext.refl p fun x y env1 G1 H1 _ E1 r1 _ x1 p => ?_
  subst r1
  cases x with
  | true => exact iu G1 H1 σ env1 Q E1 (Post.shift back_B x1 p)
  | false => exact p G1 H1 false E1 rfl x1
theorem xw_or (h : XT X W B a ta) (h2 : XW X W B (.BoolOp .Or (b :: rest) pos) tb) : XW X W B (.BoolOp .Or (a :: b :: rest) pos) (mOr ta tb) := by
  obtain ⟨⟨t, pt, it⟩⟩ := h
  obtain ⟨⟨u, pu, iu⟩⟩ := h2
  refine ⟨⟨_, pw_or pt pu, fun G H σ env Q E p => ?_⟩⟩
  refine it.run E Ext.refl p fun x y env1 G1 H1 _ E1 r1 _ x1 p => ?_
  subst r1
  cases x with
  | false => exact iu G1 H1 σ env1 Q E1 (Post.shift back_B x1 p)
  | true => exact p G1 H1 true E1 rfl x1
/-! .. as values -/
def mAndV (ma mb : M Rf) : M Rf := ma.bind fun x env => match x with
  | .im (.bool true) => mb env
  | .im (.bool false) => .ok (.im (.bool false)) env
  | _ => .stuck
def mOrV (ma mb : M Rf) : M Rf := ma.bind fun x env => match x with
  | .im (.bool false) => mb env
  | .im (.bool true) => .ok (.im (.bool true)) env
  | _ => .stuck
def mNotV (ma : M Rf) : M Rf := ma.bind fun x env => match x with
  | .im (.bool k) => .ok (.im (.bool (!k))) env
  | _ => .stuck
theorem xone {op : BoolOp} (h : XE X W B a m) : XE X W B (.BoolOp op [a] pos) m := by
  obtain ⟨⟨t, pt, it⟩⟩ := h
  exact ⟨⟨_, pe_one pt, it⟩⟩
theorem xand (h : XE X W B a ma) (h2 : XE X W B (.BoolOp .And (b :: rest) pos) mb) : XE X W B (.BoolOp .And (a :: b :: rest) pos) (mAndV ma mb) := by
  obtain ⟨⟨t, pt, it⟩⟩ := h
  obtain ⟨⟨u, pu, iu⟩⟩ := h2
  refine .by_ (pe_and pt pu) fun G H σ env Q E p => ?_
  refine it.run E Ext.refl p fun x y env1 G1 H1 _ E1 r1 _ x1 p => ?_
  split at p
  · have r1 : Dn X.ct G1 H1 x (.bool true) := r1
    cases r1
    exact ⟨true, rfl, iu G1 H1 σ env1 Q E1 (Post.shift back_V x1 p)⟩
  · have r1 : Dn X.ct G1 H1 x (.bool false) := r1
    cases r1
    exact ⟨false, rfl, p G1 H1 _ E1 (.bl false) x1⟩
  · exact p.elim
theorem xor (h : XE X W B a ma) (h2 : XE X W B (.BoolOp .Or (b :: rest) pos) mb) : XE X W B (.BoolOp .Or (a :: b :: rest) pos) (mOrV ma mb) := by
  obtain ⟨⟨t, pt, it⟩⟩ := h
  obtain ⟨⟨u, pu, iu⟩⟩ := h2
  refine .by_ (pe_or pt pu) fun G H σ env Q E p => ?_
  refine it.run E Ext.refl p fun x y env1 G1 H1 _ E1 r1 _ x1 p => ?_
  split at p
  · have r1 : Dn X.ct G1 H1 x (.bool false) := r1
    cases r1
    exact ⟨false, rfl, iu G1 H1 σ env1 Q E1 (Post.shift back_V x1 p)⟩
  · have r1 : Dn X.ct G1 H1 x (.bool true) := r1
    cases r1
    exact ⟨true, rfl, p G1 H1 _ E1 (.bl true) x1⟩
  · exact p.elim
theorem xnot (h : XE X W B a m) : XE X W B (.UnaryOp .Not a pos) (mNotV m) := by
  obtain ⟨⟨t, pt, it⟩⟩ := h
  refine .by_ (pe_not pt) fun G H σ env Q E p => ?_
  refine it.run E Ext.refl p fun x y env1 G1 H1 _ E1 r1 _ x1 p => ?_
  split at p
  · rename_i k hk
    have r1 : Dn X.ct G1 H1 x (.bool k) := r1
    cases r1
    exact ⟨k, rfl, p G1 H1 _ E1 (.bl _) x1⟩
  · exact p.elim
def mIf (t : M Bool) (ma mb : M Rf) : M Rf := t.bind fun k => match k with
  | true => ma
  | false => mb
theorem xif (h : XT X W B c ta) (h1 : XE X W B a ma) (h2 : XE X W B b mb) : XE X W B (.IfExp c a b pos) (mIf ta ma mb) := by
  obtain ⟨⟨t, pt, it⟩⟩ := h
  obtain ⟨⟨u, pu, iu⟩⟩ := h1
  obtain ⟨⟨w, pw, iw⟩⟩ := h2
  refine .by_ (pe_ifExp pt pu pw) fun G H σ env Q E p => ?_
  refine it.run E Ext.refl p fun x y env1 G1 H1 _ E1 r1 _ x1 p => ?_
  subst r1
  cases x with
  | true => exact iu G1 H1 σ env1 Q E1 (Post.shift back_V x1 p)
  | false => exact iw G1 H1 σ env1 Q E1 (Post.shift back_V x1 p)
/-- a < b < c -/
def mChain (g g' : Sl → Sl → Option Rf) (ma mb mc : M Rf) : M Rf := ma.bind fun x => mb.bind fun y => (opv2 g x y : M Rf).bind fun z env => match z with
  | .im (.bool true) => (mc.bind fun u => opv2 g' y u) env
  | .im (.bool false) => .ok (.im (.bool false)) env
  | _ => .stuck

/-! ### built-ins by their names -/
def views (env : En) : List Rf → Option (List Sl)
  | [] => some []
  | x :: xs => match view env x, views env xs with
    | some s, some ss => some (s :: ss)
    | _, _ => none
theorem RfA.views {mg : MG} {Hb : Hp} {G : AP} {H : Hp} {σ : St} {env : En} (E : ER B mg G H σ env) : ∀ {xs : List Rf} {vs : List V} {ss : List Sl}, RfA mg Hb G H σ env vs xs → PL.views env xs = some ss → VRs mg G H vs ss
  | [], _, _, .nil, h => by cases h; exact .nil
  | x :: xs, _, _, .cons a _ r, h => by
    unfold PL.views at h
    split at h
    · rename_i s ss h1 h2
      cases h
      exact .cons (a.view E h1) (RfA.views E r h2)
    · cases h
def mCB (g : List Sl → Option Rf) (ms : M (List Rf)) : M Rf := ms.bind fun xs env => match views env xs with
  | some ss => (match g ss with
    | some z => .ok z env
    | none => .stuck)
  | none => .stuck
theorem imp_cb {g : List Sl → Option Rf} {r : List V → Hp → VK → Prop} {t : TA} (it : Imp B X.ct W (rA X.ct) t ms)
    (hr : ∀ G H xs ss z Q, (∀ b, G b → H b ≠ none) → LB G H → VRs X.ct G H xs ss → g ss = some z → (∀ G' H' v, New G H G' H' → ZR X.ct H G' H' v z → Q v H') → r xs H Q) : Imp B X.ct W (rV X.ct) (tCB r t) (mCB g ms) := fun G H σ env Q E p => by
  refine it.run E Ext.refl p fun vs xs env1 G1 H1 _ E1 r1 _ x1 p => ?_
  split at p
  · rename_i ss h1
    split at p
    · rename_i z hz
      exact hr G1 H1 vs ss z Q E1.gt E1.lb (RfA.views E1 r1 h1) hz fun G' H' v n zr => p G' H' v (E1.new n) ((ZR.rf E1 zr).back x1.e2) (x1.trans n.ext)
    · exact p.elim
  · exact p.elim
theorem xcb {x : Str} {id : String} {p : Pos} {g : List Sl → Option Rf} (hc : CallOk X (.builtin id) g) (hg : Gl X x) (hm : X.mg x = none) (hv : bootBuiltins x = some (.builtin id)) (ha : XA X W B (e :: es) ms) (hn : x ≠ "__name__" := by decide) (hdb : (x == ("__debug__" : Str)) = false := by decide)
    (he : starEach (e :: es) X.env = (false, eval e X.env) :: starEach es X.env := by rfl) (hpl : (backTo pos (starEach es X.env)).any (·.1) = false := by rfl) : XE X W B (.Call (.Name x p) (e :: es) [] pos) (mCB g ms) := by
  obtain ⟨r, h, hr⟩ := hc
  obtain ⟨⟨t, pt, it⟩⟩ := ha
  exact .by_ (pe_callB h hg hm hv pt hn hdb he hpl) (imp_cb it hr)
theorem xct {x : Str} {id : String} {p : Pos} {g : List Sl → Option Rf} (hc : CallOk X (.type id) g) (hg : Gl X x) (hm : X.mg x = none) (hv : bootBuiltins x = some (.type id)) (ha : XA X W B (e :: es) ms) (hn : x ≠ "__name__" := by decide) (hdb : (x == ("__debug__" : Str)) = false := by decide)
    (he : starEach (e :: es) X.env = (false, eval e X.env) :: starEach es X.env := by rfl) (hpl : (backTo pos (starEach es X.env)).any (·.1) = false := by rfl) : XE X W B (.Call (.Name x p) (e :: es) [] pos) (mCB g ms) := by
  obtain ⟨r, h, hr⟩ := hc
  obtain ⟨⟨t, pt, it⟩⟩ := ha
  exact .by_ (pe_callTy h hg hm hv pt hn hdb he hpl) (imp_cb it hr)
end
end PL

set_option maxRecDepth 100000
namespace PL
open PySem PySem.Spec PyProof.Rows L2

/-! ### a < b < c -/
section
variable {X : Cx} {W : WX} {B : Bs} {a b c : Expr} {ma mb mc : M Rf} {pos : Pos} {op op' : CmpOp} {g g' : Sl → Sl → Option Rf}
def Op2R (mg : MG) (r : R2) (g : Sl → Sl → Option Rf) : Prop := ∀ G H x y sx sy z Q, (∀ b, G b → H b ≠ none) → LB G H → VR mg G H x sx → VR mg G H y sy → g sx sy = some z → (∀ G' H' v, New G H G' H' → ZR mg H G' H' v z → Q v H') → r x y H Q
theorem imp_chain {r r' : R2} {ta tb tc : TE} (ho : Op2R X.ct r g) (ho' : Op2R X.ct r' g') (ia : Imp B X.ct W (rV X.ct) ta ma) (ib : Imp B X.ct W (rV X.ct) tb mb) (ic : Imp B X.ct W (rV X.ct) tc mc) : Imp B X.ct W (rV X.ct) (tChain r r' ta tb tc) (mChain g g' ma mb mc) := fun G H σ env Q E p => by
  refine ia.run E Ext.refl p fun x y env1 G1 H1 _ E1 r1 _ x1 p => ?_
  refine ib.run E1 x1 p fun x' y' env2 G2 H2 _ E2 r2 e2 x2 p => ?_
  have r1 := r1.ext E1 e2
  have p : Post B X.ct W (rV X.ct) G H σ env ((opv2 g y y' env2).bind fun z env => match z with
    | .im (.bool true) => (mc.bind fun u => opv2 g' y' u) env
    | .im (.bool false) => .ok (.im (.bool false)) env
    | _ => .stuck) Q := p
  unfold opv2 at p
  split at p
  · rename_i sx sy h1 h2
    split at p
    · rename_i z hz
      refine ho G2 H2 x x' sx sy z _ E2.gt E2.lb (r1.view E2 h1) (r2.view E2 h2) hz fun G3 H3 v n zr => ?_
      have x3 := x2.trans (n.ext (σ := σ) (env := env2))
      have E3 := E2.new n
      rw [Res.bind_ok] at p
      split at p
      · have zr : Dn X.ct G3 H3 v (.bool true) := zr
        cases zr
        refine ⟨true, rfl, ?_⟩
        rw [if_pos rfl]
        refine ic.run E3 x3 p fun w u env4 G4 H4 _ E4 r4 e4 x4 p => ?_
        have r2' := (r2.ext (env2 := env2) E2 n.ext).ext E3 e4
        unfold opv2 at p
        split at p
        · rename_i sy' su h3 h4
          split at p
          · rename_i z' hz'
            exact ho' G4 H4 x' w sy' su z' Q E4.gt E4.lb (r2'.view E4 h3) (r4.view E4 h4) hz' fun G' H' v n zr => p G' H' v (E4.new n) ((ZR.rf E4 zr).back x4.e2) (x4.trans n.ext)
          · exact p.elim
        · exact p.elim
      · have zr : Dn X.ct G3 H3 v (.bool false) := zr
        cases zr
        refine ⟨false, rfl, ?_⟩
        rw [if_neg Bool.false_ne_true]
        exact p G3 H3 _ E3 (.bl false) x3
      · exact p.elim
    · exact p.elim
  · exact p.elim
theorem xchain (ho : Op2Ok X (compareOp op) g) (ho' : Op2Ok X (compareOp op') g') (ha : XE X W B a ma) (hb : XE X W B b mb) (hc : XE X W B c mc) (hm : lastMarks [op, op'] [b, c] = false := by with_unfolding_all rfl) :
    XE X W B (.Compare a [op, op'] [b, c] pos) (mChain g g' ma mb mc) := by
  obtain ⟨r, h, hr⟩ := ho
  obtain ⟨r', h', hr'⟩ := ho'
  obtain ⟨⟨ta, pa, ia⟩⟩ := ha
  obtain ⟨⟨tb, pb, ib⟩⟩ := hb
  obtain ⟨⟨tc, pc, ic⟩⟩ := hc
  exact .by_ (pe_chain h h' pa pb pc hm) (imp_chain hr hr' ia ib ic)
theorem xt_chain (ho : Op2Ok X (compareOp op) g) (ho' : Op2Ok X (compareOp op') g') (ha : XE X W B a ma) (hb : XE X W B b mb) (hc : XE X W B c mc) (hm : lastMarks [op, op'] [b, c] = false := by with_unfolding_all rfl) :
    XT X W B (.Compare a [op, op'] [b, c] pos) (mB (mChain g g' ma mb mc)) := by
  obtain ⟨r, h, hr⟩ := ho
  obtain ⟨r', h', hr'⟩ := ho'
  obtain ⟨⟨ta, pa, ia⟩⟩ := ha
  obtain ⟨⟨tb, pb, ib⟩⟩ := hb
  obtain ⟨⟨tc, pc, ic⟩⟩ := hc
  refine ⟨⟨_, pt_chain h h' pa pb pc hm, fun G H σ env Q E p => ?_⟩⟩
  refine (imp_chain (W := W) hr hr' ia ib ic).run E Ext.refl p fun x y env1 G1 H1 _ E1 r1 _ x1 p => ?_
  split at p
  · rename_i k hk
    have r1 : Dn X.ct G1 H1 x (.bool k) := r1
    cases r1
    exact ⟨k, rfl, p G1 H1 k E1 rfl x1⟩
  · exact p.elim
end

/-! ### statements -/
inductive SR where
  | nx (e : En) | rt (s : Sl) (e : En) | bk (e : En) | ct (e : En) | exn (c : Str) (e : En) | stuck
abbrev MS := En → SR
def Res.toSR {α : Type} (r : Res α) (f : α → En → SR) : SR := match r with
  | .ok a e => f a e
  | .exn c e => .exn c e
  | .stuck => .stuck
@[simp] theorem Res.toSR_ok {α : Type} (a : α) (e : En) (f : α → En → SR) : (Res.ok a e).toSR f = f a e := rfl
@[simp] theorem Res.toSR_exn {α : Type} (c : Str) (e : En) (f : α → En → SR) : (Res.exn c e : Res α).toSR f = .exn c e := rfl
@[simp] theorem Res.toSR_stuck {α : Type} (f : α → En → SR) : (Res.stuck : Res α).toSR f = .stuck := rfl
def SR.seq (r : SR) (f : MS) : SR := match r with
  | .nx e => f e
  | .rt s e => .rt s e
  | .bk e => .bk e
  | .ct e => .ct e
  | .exn c e => .exn c e
  | .stuck => .stuck
@[simp] theorem SR.seq_nx (e : En) (f : MS) : (SR.nx e).seq f = f e := rfl
@[simp] theorem SR.seq_rt (s : Sl) (e : En) (f : MS) : (SR.rt s e).seq f = .rt s e := rfl
@[simp] theorem SR.seq_bk (e : En) (f : MS) : (SR.bk e).seq f = .bk e := rfl
@[simp] theorem SR.seq_ct (e : En) (f : MS) : (SR.ct e).seq f = .ct e := rfl
@[simp] theorem SR.seq_exn (c : Str) (e : En) (f : MS) : (SR.exn c e).seq f = .exn c e := rfl
@[simp] theorem SR.seq_stuck (f : MS) : SR.stuck.seq f = .stuck := rfl
/-- what is handed back: a value, or an object that the caller alone holds from now on -/
def RtR (mg : MG) (B : Bs) (G : AP) (H : Hp) (σ : St) (env : En) (v : V) : Sl → Prop
  | .no => False
  | .im d => Dn mg G H v d
  | s => ∃ a, v = .ref a ∧ TmpAt mg B.H0 G H a s ∧ ¬ Ow σ env a
theorem RtR.mk {mg : MG} {B : Bs} {G : AP} {H : Hp} {σ : St} {env : En} {a : Addr} {s : Sl} (t : TmpAt mg B.H0 G H a s) (n : ¬ Ow σ env a) : RtR mg B G H σ env (.ref a) s := by
  have ho := t.r.own
  cases s with
  | no => cases ho
  | im d => cases ho
  | ol ds => exact ⟨a, rfl, t, n⟩
  | odk ds => exact ⟨a, rfl, t, n⟩
  | odt ds => exact ⟨a, rfl, t, n⟩
def PostS (B : Bs) (mg : MG) (W : WX) (G : AP) (H : Hp) (r : SR) (D : Ends) : Prop := match r with
  | .nx e => ∀ G' H' σ', ER B mg G' H' σ' e → Fz G H G' H' → D.nx σ' H'
  | .bk e => ∀ G' H' σ', ER B mg G' H' σ' e → Fz G H G' H' → D.bk σ' H'
  | .ct e => ∀ G' H' σ', ER B mg G' H' σ' e → Fz G H G' H' → D.ct σ' H'
  | .rt s e => ∀ G' H' σ' v, ER B mg G' H' σ' e → Fz G H G' H' → RtR mg B G' H' σ' e v s → D.rt v H'
  | .exn c e => ∀ G' H' σ' cls, ER B mg G' H' σ' e → Fz G H G' H' → mg.g c = some cls → W cls none σ' H'
  | .stuck => False
def ImpS (B : Bs) (mg : MG) (W : WX) (t : TS) (ms : MS) : Prop := ∀ G H σ env D, ER B mg G H σ env → PostS B mg W G H (ms env) D → t D σ H
theorem PostS.shift {B : Bs} {mg : MG} {W : WX} {G G1 : AP} {H H1 : Hp} {r : SR} {D : Ends} (f : Fz G H G1 H1) (p : PostS B mg W G H r D) : PostS B mg W G1 H1 r D := by
  cases r with
  | nx e => exact fun G' H' σ' E z => p G' H' σ' E (f.trans z)
  | bk e => exact fun G' H' σ' E z => p G' H' σ' E (f.trans z)
  | ct e => exact fun G' H' σ' E z => p G' H' σ' E (f.trans z)
  | rt s e => exact fun G' H' σ' v E z => p G' H' σ' v E (f.trans z)
  | exn c e => exact fun G' H' σ' cls E z => p G' H' σ' cls E (f.trans z)
  | stuck => exact p
section
variable (X : Cx) (W : WX) (B : Bs)
structure XS (st : Stmt) (ms : MS) : Prop where
  ex : ∃ t : TS, PS X st t ∧ ImpS B X.ct W t ms
structure XSs (st : List Stmt) (ms : MS) : Prop where
  ex : ∃ t : TS, PSs X st t ∧ ImpS B X.ct W t ms
end
section
variable {α β : Type} {B : Bs} {mg : MG} {W : WX} {R1 : Rl α β} {G G1 : AP} {H H1 : Hp} {σ : St} {env env1 : En}
/-- a reading ahead of a statement's end -/
theorem Imp.runS {t : St → Hp → (α → Hp → Prop) → Prop} {m : M β} {f : β → En → SR} {K : α → Hp → Prop} {D : Ends} (i : Imp B mg W R1 t m) (E : ER B mg G H σ env) (p : PostS B mg W G H ((m env).toSR f) D)
    (k : ∀ x y env1 G1 H1, m env = .ok y env1 → ER B mg G1 H1 σ env1 → R1 H G1 H1 σ env1 x y → Ext G H G1 H1 σ env env1 → PostS B mg W G H (f y env1) D → K x H1) : t σ H K := by
  refine i G H σ env K E ?_
  generalize hr : m env = r at p k
  cases r with
  | ok y env' => exact fun G' H' x e rl x' => k x y env' G' H' rfl e rl x' p
  | exn c env' => exact fun G' H' cls e x' hm => p G' H' σ cls e (x'.fz E) hm
  | stuck => exact p
theorem PostS.inv {r : Res β} {f : β → En → SR} {D : Ends} (p : PostS B mg W G H (r.toSR f) D) (hx : ∀ c e, r ≠ .exn c e) : ∃ y e, r = .ok y e ∧ PostS B mg W G H (f y e) D := by
  cases r with
  | ok y e => exact ⟨y, e, rfl, p⟩
  | exn c e => exact absurd rfl (hx c e)
  | stuck => exact p.elim
end
def sNext : MS := fun e => .nx e
def sSeq (a b : MS) : MS := fun e => (a e).seq b
def sDrop (m : M Rf) : MS := fun env => (m env).toSR fun _ e => .nx e
/-- a value for a name -/
def toS (np : Nat) : Rf → M Sl
  | .im d => fun env => .ok (.im d) env
  | .tmp s => fun env => .ok s env
  | .var j => M.bind (toI np (.var j)) fun d env => .ok (.im d) env
def setSl (np i : Nat) (s : Sl) (env : En) : Option En := match env[i]? with
  | none => none
  | some t => if t.own = true ∧ i < np then none else some (env.set i s)
def sStore (np i : Nat) (s : Sl) : MS := fun env => match setSl np i s env with
  | some e => .nx e
  | none => .stuck
def sSet (np i : Nat) (m : M Rf) : MS := fun env => ((m env).bind (toS np)).toSR fun s e => sStore np i s e
def sRet (np : Nat) (m : M Rf) : MS := fun env => (m env).toSR fun x e => match x with
  | .im d => .rt (.im d) e
  | .tmp s => .rt s e
  | .var j => (match e[j]? with
    | some .no => .stuck
    | some (.im d) => .rt (.im d) e
    | some s => if np ≤ j then .rt s (e.set j .no) else .stuck
    | none => .stuck)
def sRetN : MS := fun e => .rt (.im .none) e
def sIf (t : M Bool) (a b : MS) : MS := fun env => (t env).toSR fun k e => match k with
  | true => a e
  | false => b e
def sRaise (c : Str) : MS := fun e => .exn c e
def sBreak : MS := fun e => .bk e
def sCont : MS := fun e => .ct e
section
variable {B : Bs} {mg : MG} {G G' G1 G2 Gb : AP} {H H' H1 H2 Hb : Hp} {σ : St} {env env' env1 env2 envb : En}
/-- a name's slot is filled -/
theorem ER.store {np i : Nat} {s : Sl} {v : V} {env' : En} (E : ER B mg G H σ env) (hnp : B.np ≤ np) (r : SlR mg G H v s) (hs : s.own = true → ∀ a, v = .ref a → ¬ Ow σ env a ∧ B.H0 a = none) (h : setSl np i s env = some env') :
    ER B mg G H (σ.set i (some v)) env' := by
  unfold setSl at h
  split at h
  · cases h
  · rename_i t ht
    split at h
    · cases h
    · rename_i hn
      cases h
      have il : i < env.length := (List.getElem?_eq_some_iff.mp ht).1
      have iσ : i < σ.length := by rw [E.len]; exact il
      have nio : ∀ p ∈ B.io, p.1 ≠ i := fun p hp z => by
        obtain ⟨q1, _, s', q3, q4⟩ := E.io p hp
        rw [z, ht] at q3
        cases q3
        exact hn ⟨q4, by omega⟩
      have at_ : ∀ k u, k ≠ i → (σ.set i (some v))[k]? = some u → σ[k]? = some u := fun k u hk q => by
        rw [List.getElem?_set_ne (Ne.symm hk)] at q; exact q
      have here : (σ.set i (some v))[i]? = some (some v) := List.getElem?_set_self iσ
      refine ⟨by rw [List.length_set, List.length_set]; exact E.len, fun k s' e n => ?_, fun k l s1 s2 a h1 o1 h2 o2 q1 q2 => ?_, fun p hp => ?_, E.f1, E.f2, E.f3, E.f4, fun k s' a h1 o1 q1 => ?_, E.gt, E.g0, E.lb⟩
      · rcases getElem?_set_cases e with ⟨z, y⟩ | ⟨z, y⟩
        · subst z y
          exact ⟨v, here, r⟩
        · obtain ⟨v', hv, r'⟩ := E.sl k s' y n
          exact ⟨v', by rw [List.getElem?_set_ne (Ne.symm z)]; exact hv, r'⟩
      · rcases getElem?_set_cases h1 with ⟨z1, y1⟩ | ⟨z1, y1⟩
        · rcases getElem?_set_cases h2 with ⟨z2, y2⟩ | ⟨z2, y2⟩
          · rw [z1, z2]
          · subst z1 y1
            rw [here] at q1
            cases q1
            exact absurd ⟨l, s2, y2, o2, at_ l _ z2 q2⟩ (hs o1 a rfl).1
        · rcases getElem?_set_cases h2 with ⟨z2, y2⟩ | ⟨z2, y2⟩
          · subst z2 y2
            rw [here] at q2
            cases q2
            exact absurd ⟨k, s1, y1, o1, at_ k _ z1 q1⟩ (hs o2 a rfl).1
          · exact E.ds k l s1 s2 a y1 o1 y2 o2 (at_ k _ z1 q1) (at_ l _ z2 q2)
      · obtain ⟨q1, q2, s', q3, q4⟩ := E.io p hp
        have z := nio p hp
        exact ⟨q1, by rw [List.getElem?_set_ne (Ne.symm z)]; exact q2, s', by rw [List.getElem?_set_ne (Ne.symm z)]; exact q3, q4⟩
      · rcases getElem?_set_cases h1 with ⟨z1, y1⟩ | ⟨z1, y1⟩
        · subst z1 y1
          rw [here] at q1
          cases q1
          exact .inr (hs o1 a rfl).2
        · exact E.f5 k s' a y1 o1 (at_ k _ z1 q1)
/-- a name is forgotten -/
theorem ER.forget {np j : Nat} (E : ER B mg G H σ env) (hnp : B.np ≤ np) (hj : np ≤ j) : ER B mg G H σ (env.set j .no) := by
  have nio : ∀ p ∈ B.io, p.1 ≠ j := fun p hp z => by
    have q := (E.io p hp).1
    omega
  refine ⟨by rw [List.length_set]; exact E.len, fun k s' e n => ?_, fun k l s1 s2 a h1 o1 h2 o2 => ?_, fun p hp => ?_, E.f1, E.f2, E.f3, E.f4, fun k s' a h1 o1 => ?_, E.gt, E.g0, E.lb⟩
  · rcases getElem?_set_cases e with ⟨z, y⟩ | ⟨z, y⟩
    · exact absurd y n
    · exact E.sl k s' y n
  · rcases getElem?_set_cases h1 with ⟨_, y⟩ | ⟨_, y⟩
    · rw [y] at o1; cases o1
    · rcases getElem?_set_cases h2 with ⟨_, y'⟩ | ⟨_, y'⟩
      · rw [y'] at o2; cases o2
      · exact E.ds k l s1 s2 a y o1 y' o2
  · obtain ⟨q1, q2, s, q3, q4⟩ := E.io p hp
    exact ⟨q1, q2, s, by rw [List.getElem?_set_ne (Ne.symm (nio p hp))]; exact q3, q4⟩
  · rcases getElem?_set_cases h1 with ⟨_, y⟩ | ⟨_, y⟩
    · rw [y] at o1; cases o1
    · exact E.f5 k s' a y o1
theorem none_of_back {a : Addr} (h0 : ∀ b, B.H0 b ≠ none → Hb b ≠ none) (n : Hb a = none) : B.H0 a = none := back_none h0 n
theorem toS_nox {np : Nat} {x : Rf} {env : En} : ∀ c e, toS np x env ≠ .exn c e := fun c e h => by
  cases x with
  | im d => cases h
  | tmp s => cases h
  | var j =>
    have h : (toI np (.var j) env).bind (fun d env => Res.ok (Sl.im d) env) = .exn c e := h
    cases q : toI np (.var j) env with
    | exn c' e' => exact toI_nox c' e' q
    | stuck => rw [q] at h; cases h
    | ok d e1 => rw [q] at h; cases h
theorem toS_ok {np : Nat} {x : Rf} {v : V} {s : Sl} (tb : ∀ b, Gb b → Hb b ≠ none) (h0 : ∀ b, B.H0 b ≠ none → Hb b ≠ none) (E : ER B mg G H σ env) (x0 : Ext Gb Hb G H σ envb env) (r : RfR mg Hb G H σ env v x) (hnp : B.np ≤ np) (h : toS np x env = .ok s env') :
    ∃ G', ER B mg G' H σ env' ∧ SlR mg G' H v s ∧ s ≠ .no ∧ (s.own = true → ∀ a, v = .ref a → ¬ Ow σ env' a ∧ B.H0 a = none) ∧ Ext Gb Hb G' H σ envb env' ∧ Fz G H G' H := by
  cases x with
  | im d => cases h; exact ⟨G, E, r, (by simp), (fun z => by cases z), x0, Fz.refl⟩
  | tmp s' =>
    cases h
    obtain ⟨a, rfl, t, n⟩ := r
    refine ⟨G, E, .mk_own t.g t.r, fun z => by rw [z] at t; exact t.r.elim, fun _ b hb => ?_, x0, Fz.refl⟩
    cases hb
    exact ⟨n, back_none h0 t.new⟩
  | var j =>
    have h : (toI np (.var j) env).bind (fun d env => Res.ok (Sl.im d) env) = .ok s env' := h
    obtain ⟨d, e1, h1, h2⟩ := bind_ok_inv h
    cases h2
    obtain ⟨G', E', dn, x1, th, _⟩ := toI_ok tb h0 E x0 r hnp h1
    exact ⟨G', E', dn, (by simp), (fun z => by cases z), x1, th.fz⟩
end
section
variable {X : Cx} {W : WX} {B : Bs} {a b c e : Expr} {st : Stmt} {sts : List Stmt} {m : M Rf} {mt : M Bool} {ms ms' : MS} {pos : Pos} {np : Nat}
theorem xs0 : XSs X W B [] sNext := ⟨⟨_, pss_nil, fun G H σ env D E p => p G H σ E Fz.refl⟩⟩
theorem xs1 (h : XS X W B st ms) : XSs X W B [st] ms := by
  obtain ⟨⟨t, pt, it⟩⟩ := h
  exact ⟨⟨_, pss_one pt, it⟩⟩
theorem xs (h : XS X W B st ms) (h2 : XSs X W B sts ms') : XSs X W B (st :: sts) (sSeq ms ms') := by
  obtain ⟨⟨t, pt, it⟩⟩ := h
  obtain ⟨⟨u, pu, iu⟩⟩ := h2
  refine ⟨⟨_, pss_cons pt pu, fun G H σ env D E p => ?_⟩⟩
  refine it G H σ env { D with nx := u D } E ?_
  unfold sSeq at p
  generalize ms env = r at p
  cases r with
  | nx e => exact fun G' H' σ' E' z => iu G' H' σ' e D E' (PostS.shift z p)
  | bk e => exact p
  | ct e => exact p
  | rt s e => exact p
  | exn c e => exact p
  | stuck => exact p
theorem xs_pass : XS X W B (.Pass pos) sNext := ⟨⟨_, ps_pass, fun G H σ env D E p => p G H σ E Fz.refl⟩⟩
theorem xs_break : XS X W B (.Break pos) sBreak := ⟨⟨_, ps_break, fun G H σ env D E p => p G H σ E Fz.refl⟩⟩
theorem xs_cont : XS X W B (.Continue pos) sCont := ⟨⟨_, ps_continue, fun G H σ env D E p => p G H σ E Fz.refl⟩⟩
theorem xs_expr (h : XE X W B e m) (hs : swapsWith e none pos.line X.env = pure false := by rfl) : XS X W B (.Expr e pos) (sDrop m) := by
  obtain ⟨⟨t, pt, it⟩⟩ := h
  refine ⟨⟨_, ps_expr pt hs, fun G H σ env D E p => ?_⟩⟩
  exact it.runS E p fun x y env1 G1 H1 _ E1 r1 x1 p => p G1 H1 σ E1 (x1.fz E)
theorem xs_if (h : XT X W B c mt) (h1 : XSs X W B sts ms) {sts' : List Stmt} (h2 : XSs X W B sts' ms') : XS X W B (.If c sts sts' pos) (sIf mt ms ms') := by
  obtain ⟨⟨t, pt, it⟩⟩ := h
  obtain ⟨⟨u, pu, iu⟩⟩ := h1
  obtain ⟨⟨w, pw, iw⟩⟩ := h2
  refine ⟨⟨_, ps_if pt pu pw, fun G H σ env D E p => ?_⟩⟩
  refine it.runS E p fun x y env1 G1 H1 _ E1 r1 x1 p => ?_
  subst r1
  cases x with
  | true => exact iu G1 H1 σ env1 D E1 (PostS.shift (x1.fz E) p)
  | false => exact iw G1 H1 σ env1 D E1 (PostS.shift (x1.fz E) p)
theorem xs_retN : XS X W B (.Return none pos) sRetN := ⟨⟨_, ps_retN, fun G H σ env D E p => p G H σ .non E Fz.refl .non⟩⟩
theorem xs_ret (h : XE X W B e m) (hnp : B.np ≤ np) : XS X W B (.Return (some e) pos) (sRet np m) := by
  obtain ⟨⟨t, pt, it⟩⟩ := h
  refine ⟨⟨_, ps_ret pt, fun G H σ env D E p => ?_⟩⟩
  refine it.runS E p fun x y env1 G1 H1 _ E1 r1 x1 p => ?_
  have fz := x1.fz E
  cases y with
  | im d => exact p G1 H1 σ x E1 fz r1
  | tmp s =>
    obtain ⟨a, rfl, t, n⟩ := r1
    exact p G1 H1 σ _ E1 fz (.mk ⟨t.g, back_none E.f2 t.new, t.r⟩ n)
  | var j =>
    have r1 : σ[j]? = some (some x) := r1
    have p : PostS B X.ct W G H (match env1[j]? with
      | some .no => .stuck
      | some (.im d) => .rt (.im d) env1
      | some s => if np ≤ j then .rt s (env1.set j .no) else .stuck
      | none => .stuck) D := p
    split at p
    · exact p.elim
    · rename_i d hd
      obtain ⟨v, hv, q⟩ := E1.sl j _ hd (by simp)
      rw [hv] at r1
      cases r1
      exact p G1 H1 σ x E1 fz q
    · rename_i s hn1 hn2 hs
      split at p
      · rename_i hj
        obtain ⟨v, hv, q⟩ := E1.sl j _ hs (fun z => hn1 z)
        rw [hv] at r1
        cases r1
        have ho : s.own = true := by
          cases s with
          | no => exact absurd rfl hn1
          | im d => exact absurd rfl (hn2 d)
          | ol ds => rfl
          | odk ds => rfl
          | odt ds => rfl
        obtain ⟨a, rfl, g, o⟩ := q.of_own ho
        have nio : ∀ p ∈ B.io, p.1 ≠ j := fun p hp z => by
          have q := (E1.io p hp).1
          omega
        have h0 : B.H0 a = none := by
          rcases E1.f5 j s a hs ho hv with ⟨p, hp, z⟩ | z
          · exact absurd z (nio p hp)
          · exact z
        refine p G1 H1 σ _ (E1.forget hnp hj) fz (.mk ⟨g, h0, o⟩ fun ⟨k, s', e', o', q'⟩ => ?_)
        rcases getElem?_set_cases e' with ⟨_, y⟩ | ⟨z, y⟩
        · rw [y] at o'; cases o'
        · exact z (E1.ds k j s' s a y o' hs ho q' hv)
      · exact p.elim
    · exact p.elim
theorem post_store {G G1 : AP} {H H1 : Hp} {σ : St} {env1 : En} {i : Nat} {s : Sl} {v : V} {D : Ends} (E1 : ER B X.ct G1 H1 σ env1) (hnp : B.np ≤ np) (r : SlR X.ct G1 H1 v s) (hs : s.own = true → ∀ a, v = .ref a → ¬ Ow σ env1 a ∧ B.H0 a = none) (fz : Fz G H G1 H1)
    (p : PostS B X.ct W G H (sStore np i s env1) D) : D.nx (σ.set i (some v)) H1 := by
  unfold sStore at p
  split at p
  · rename_i e he
    exact p G1 H1 _ (E1.store hnp r hs he) fz
  · exact p.elim
theorem xs_set {i : Nat} {x : Str} {pos' : Pos} (h : XE X W B e m) (hnp : B.np ≤ np) (hN : X.N.Nodup) (hi : X.N[i]? = some x := by rfl) (hx : Loc X.env.scope x := by first | exact .inl rfl | exact .inr rfl) (hs : swapsWith e (some (.Name x pos')) pos.line X.env = pure false := by rfl)
    (hf : X.fn x = true ∨ X.env.scope.names.lookup x = some .local := by first | exact .inl rfl | exact .inr rfl) : XS X W B (.Assign [.Name x pos'] e pos) (sSet np i m) := by
  obtain ⟨⟨t, pt, it⟩⟩ := h
  refine ⟨⟨_, ps_set hN hi hx pt hs hf, fun G H σ env D E p => ?_⟩⟩
  have p : PostS B X.ct W G H ((m env).toSR fun x e => (toS np x e).toSR fun s e => sStore np i s e) D := by
    have q : ((m env).bind (toS np)).toSR (fun s e => sStore np i s e) = (m env).toSR fun x e => (toS np x e).toSR fun s e => sStore np i s e := by cases m env <;> rfl
    rw [← q]; exact p
  refine it.runS E p fun x y env1 G1 H1 _ E1 r1 x1 p => ?_
  obtain ⟨s, e2, h2, p⟩ := PostS.inv p toS_nox
  obtain ⟨G2, E2, sr, _, hs, _, fz2⟩ := toS_ok E.gt E.f2 E1 x1 r1 hnp h2
  exact post_store E2 hnp sr hs ((x1.fz E).trans fz2) p
end
end PL

set_option maxRecDepth 100000
namespace PL
open PySem PySem.Spec PyProof.Rows L2

/-! ### targets -/
abbrev MT := D → En → Option En
/-- only the slots of sl are stored -/
def Slots (sl : List Nat) (σ σ' : St) : Prop := σ'.length = σ.length ∧ ∀ k, k ∉ sl → σ'[k]? = σ[k]?
theorem Slots.trans {sl sl' : List Nat} {σ σ1 σ2 : St} (a : Slots sl σ σ1) (b : Slots sl' σ1 σ2) : Slots (sl ++ sl') σ σ2 :=
  ⟨b.1.trans a.1, fun k h => (b.2 k fun z => h (List.mem_append_right _ z)).trans (a.2 k fun z => h (List.mem_append_left _ z))⟩
section
variable (X : Cx) (B : Bs)
structure XG (tg : Expr) (sl : List Nat) (mt : MT) : Prop where
  ex : ∃ t : TG, PG X tg t ∧ ∀ G H σ env v d env' Q, ER B X.ct G H σ env → Dn X.ct G H v d → mt d env = some env' → (∀ σ', ER B X.ct G H σ' env' → Slots sl σ σ' → (∀ b, Ow σ' env' b → Ow σ env b) → Q σ' H) → t v σ H Q
structure XGs (tg : List Expr) (sl : List Nat) (mt : List D → En → Option En) : Prop where
  ex : ∃ t : TGs, PGs X tg t ∧ ∀ G H σ env vs ds env' Q, ER B X.ct G H σ env → DnA X.ct G H vs ds → mt ds env = some env' → (∀ σ', ER B X.ct G H σ' env' → Slots sl σ σ' → (∀ b, Ow σ' env' b → Ow σ env b) → Q σ' H) → t vs σ H Q
end
def tName (np i : Nat) : MT := fun d env => setSl np i (.im d) env
def tsNil : List D → En → Option En := fun ds env => match ds with
  | [] => some env
  | _ => none
def tsCons (t : MT) (ts : List D → En → Option En) : List D → En → Option En := fun ds env => match ds with
  | d :: r => (match t d env with
    | some e => ts r e
    | none => none)
  | [] => none
def tTuple (n : Nat) (ts : List D → En → Option En) : MT := fun d env => match d with
  | .tuple ds => if ds.length = n then ts ds env else none
  | _ => none
section
variable {X : Cx} {W : WX} {B : Bs} {a b c e tg : Expr} {tgs : List Expr} {np : Nat} {pos : Pos} {sl sl' : List Nat} {mt : MT} {mts : List D → En → Option En}
theorem setSl_ow {np i : Nat} {d : D} {σ : St} {env env' : En} {v : V} (h : setSl np i (.im d) env = some env') {b : Addr} (q : Ow (σ.set i (some v)) env' b) : Ow σ env b := by
  unfold setSl at h
  split at h
  · cases h
  · split at h
    · cases h
    · cases h
      obtain ⟨k, s, e, o, z⟩ := q
      rcases getElem?_set_cases e with ⟨_, y⟩ | ⟨hk, y⟩
      · rw [y] at o; cases o
      · rw [List.getElem?_set_ne (Ne.symm hk)] at z
        exact ⟨k, s, y, o, z⟩
theorem xg_name {i : Nat} {x : Str} (hnp : B.np ≤ np) (hN : X.N.Nodup) (hi : X.N[i]? = some x := by rfl) (hx : Loc X.env.scope x := by first | exact .inl rfl | exact .inr rfl) (hf : X.fn x = true ∨ X.env.scope.names.lookup x = some .local := by first | exact .inl rfl | exact .inr rfl) :
    XG X B (.Name x pos) [i] (tName np i) :=
  ⟨⟨_, pg_name hN hi hx hf, fun G H σ env v d env' Q E dn h q => q _ (E.store (s := .im d) hnp dn (fun z => by cases z) h) ⟨List.length_set, fun k hk => List.getElem?_set_ne fun z => hk (by rw [z]; exact List.mem_cons_self)⟩ fun b z => setSl_ow h z⟩⟩
theorem xgs0 : XGs X B [] [] tsNil := by
  refine ⟨⟨_, pgs_nil, fun G H σ env vs ds env' Q E dn h q => ?_⟩⟩
  cases dn with
  | nil => cases h; exact ⟨rfl, q σ E ⟨rfl, fun _ _ => rfl⟩ fun _ z => z⟩
  | cons a b => cases h
theorem xgs (h1 : XG X B tg sl mt) (h2 : XGs X B tgs sl' mts) (hs : (assignEach (tg :: tgs) X.env).map (·.2) = assign tg X.env :: (assignEach tgs X.env).map (·.2) := by rfl) : XGs X B (tg :: tgs) (sl ++ sl') (tsCons mt mts) := by
  obtain ⟨⟨t, pt, it⟩⟩ := h1
  obtain ⟨⟨u, pu, iu⟩⟩ := h2
  refine ⟨⟨_, pgs_cons pt pu hs, fun G H σ env vs ds env' Q E dn h q => ?_⟩⟩
  cases dn with
  | nil => cases h
  | @cons v vs d ds a r =>
    have h : (match mt d env with
      | some e => mts ds e
      | none => none) = some env' := h
    split at h
    · rename_i e he
      exact ⟨v, vs, rfl, it G H σ env v d e _ E a he fun σ1 E1 s1 o1 => iu G H σ1 e vs ds env' _ E1 r h fun σ2 E2 s2 o2 => q σ2 E2 (s1.trans s2) fun b z => o1 b (o2 b z)⟩
    · cases h
theorem xg_tup {k n : Nat} (hc : X.calm = true) (h : XGs X B tgs sl mts) (hn : (assignEach tgs X.env).length = n := by rfl) (hst : (assignEach tgs X.env).findIdx? (·.1) = none := by rfl) : XG X B (.Tuple tgs k pos) sl (tTuple n mts) := by
  obtain ⟨⟨t, pt, it⟩⟩ := h
  refine ⟨⟨_, pg_tup hc pt hn hst, fun G H σ env v d env' Q E dn h q => ?_⟩⟩
  unfold tTuple at h
  split at h
  · rename_i ds
    split at h
    · rename_i hl
      cases dn with
      | tup g r a => exact ⟨_, _, rfl, .of r, by rw [a.length]; exact hl, it G H σ env _ ds env' Q E a h q⟩
    · cases h
  · cases h

/-! ### what is walked -/
structure Walks (mg : MG) (G1 : AP) (H1 : Hp) (J : It) (ds : List D) : Prop where
  go : ∀ G H i, Fz G1 H1 G H → i < ds.length → J.go i H
  yld : ∀ G H i x H', Fz G1 H1 G H → (∀ b, G b → H b ≠ none) → LB G H → i < ds.length → J.yld i H x H' → ∃ d, ds[i]? = some d ∧ New G H G H' ∧ Dn mg G H' x d
  stop : ∀ G H i, Fz G1 H1 G H → ds.length ≤ i → J.stop i H
  len : ds.length ≤ sizeLine
abbrev rI (mg : MG) : Rl It (List D) := fun _ G H _ _ J ds => Walks mg G H J ds
end
section
variable (X : Cx) (W : WX) (B : Bs)
structure XI (tg iter : Expr) (m : M (List D)) : Prop where
  ex : ∃ wi : TI, PI X tg iter wi ∧ Imp B X.ct W (rI X.ct) wi m
end
/-- a loop over the items -/
def loopS (mt : MT) (body : MS) : List D → MS
  | [] => fun e => .nx e
  | d :: ds => fun e => match mt d e with
    | none => .stuck
    | some e1 => (match body e1 with
      | .nx e2 => loopS mt body ds e2
      | .ct e2 => loopS mt body ds e2
      | .bk e2 => .nx e2
      | .rt s e2 => .rt s e2
      | .exn c e2 => .exn c e2
      | .stuck => .stuck)
def sFor (mi : M (List D)) (mt : MT) (body : MS) : MS := fun env => (mi env).toSR fun ds e => loopS mt body ds e
section
variable {X : Cx} {W : WX} {B : Bs} {tg iter c : Expr} {body sts : List Stmt} {np : Nat} {pos : Pos} {sl : List Nat} {mt : MT} {mi : M (List D)} {ms : MS} {mc : M Bool}
theorem drop_cons {α : Type} {l : List α} {i : Nat} {d : α} (h : l[i]? = some d) : l.drop i = d :: l.drop (i + 1) := by
  obtain ⟨hl, e⟩ := List.getElem?_eq_some_iff.mp h
  rw [List.drop_eq_getElem_cons hl, e]
theorem imp_for {mg : MG} {wi : TI} {g : TG} {tb : TS} (ii : Imp B mg W (rI mg) wi mi) (ig : ∀ G H σ env v d env' Q, ER B mg G H σ env → Dn mg G H v d → mt d env = some env' → (∀ σ', ER B mg G H σ' env' → Slots sl σ σ' → (∀ b, Ow σ' env' b → Ow σ env b) → Q σ' H) → g v σ H Q) (ib : ImpS B mg W tb ms) :
    ImpS B mg W (tFor wi g tb) (sFor mi mt ms) := fun G H σ env D E p => by
  refine ii.runS E p fun J ds env1 G1 H1 _ E1 w x1 p => ?_
  have f1 := x1.fz E
  -- Nn i: behind i items
  let N : Nat → St → Hp → Prop := fun i σ' H' => ∃ G' env', ER B mg G' H' σ' env' ∧ Fz G1 H1 G' H' ∧ PostS B mg W G H (loopS mt ms (ds.drop i) env') D
  have hN : ∀ i σ' H', N i σ' H' ↔ ∃ G' env', ER B mg G' H' σ' env' ∧ Fz G1 H1 G' H' ∧ PostS B mg W G H (loopS mt ms (ds.drop i) env') D := fun _ _ _ => Iff.rfl
  refine ⟨fun i n σ' H' => n = ds.length - i ∧ i ≤ ds.length ∧ N i σ' H', ⟨ds.length, by simp, Nat.zero_le _, (hN _ _ _).mpr ⟨G1, env1, E1, Fz.refl, p⟩⟩, ?_⟩
  rintro i n σ2 H2 ⟨rfl, hi, hn⟩
  obtain ⟨G2, env2, E2, f2, p2⟩ := (hN _ _ _).mp hn
  by_cases hlt : i < ds.length
  · refine .inr ⟨w.go G2 H2 i f2 hlt, fun σ3 H3 => N (i + 1) σ3 H3, fun σ' H' p' => ⟨ds.length - (i + 1), by omega, rfl, hlt, p'⟩, fun x H3 hy => ?_⟩
    obtain ⟨d, hd, n3, dn⟩ := w.yld G2 H2 i x H3 f2 E2.gt E2.lb hlt hy
    rw [drop_cons hd] at p2
    have p2 : PostS B mg W G H (match mt d env2 with
      | none => .stuck
      | some e1 => (match ms e1 with
        | .nx e2 => loopS mt ms (ds.drop (i + 1)) e2
        | .ct e2 => loopS mt ms (ds.drop (i + 1)) e2
        | .bk e2 => .nx e2
        | .rt s e2 => .rt s e2
        | .exn c e2 => .exn c e2
        | .stuck => .stuck)) D := p2
    split at p2
    · exact p2.elim
    · rename_i e1 he1
      refine ig G2 H3 σ2 env2 x d e1 _ (E2.new n3) dn he1 fun σ4 E4 _ _ => ?_
      have f3 := f2.trans n3.fz
      refine ib G2 H3 σ4 e1 _ E4 ?_
      generalize ms e1 = r at p2
      have f4 := f1.trans f3
      cases r with
      | nx e2 => exact fun G5 H5 σ5 E5 f5 => (hN _ _ _).mpr ⟨G5, e2, E5, f3.trans f5, p2⟩
      | ct e2 => exact fun G5 H5 σ5 E5 f5 => (hN _ _ _).mpr ⟨G5, e2, E5, f3.trans f5, p2⟩
      | bk e2 => exact fun G5 H5 σ5 E5 f5 => p2 G5 H5 σ5 E5 (f4.trans f5)
      | rt s e2 => exact fun G5 H5 σ5 v E5 f5 => p2 G5 H5 σ5 v E5 (f4.trans f5)
      | exn c e2 => exact fun G5 H5 σ5 cls E5 f5 => p2 G5 H5 σ5 cls E5 (f4.trans f5)
      | stuck => exact p2
  · have e : i = ds.length := by omega
    subst e
    rw [List.drop_length] at p2
    exact .inl ⟨w.stop G2 H2 _ f2 (Nat.le_refl _), p2 G2 H2 σ2 E2 (f1.trans f2)⟩
theorem xs_for (hp : PassesOwn (model X.prog X.w) X.A X.env X.xe) (hc : X.calm = true) (hi : XI X W B tg iter mi) (hg : XG X B tg sl mt) (hb : XSs X W B body ms) (hs : ∀ x, foldedSetIterable iter X.env x = pure x := by intro _; rfl) :
    XS X W B (.For tg iter body [] pos) (sFor mi mt ms) := by
  obtain ⟨⟨wi, pi, ii⟩⟩ := hi
  obtain ⟨⟨g, pg, ig⟩⟩ := hg
  obtain ⟨⟨tb, pb, ib⟩⟩ := hb
  exact ⟨⟨_, ps_for hp hc pi pg pb hs, imp_for ii ig ib⟩⟩

/-! ### while -/
def whileS (mc : M Bool) (body : MS) : Nat → MS
  | 0 => fun _ => .stuck
  | n + 1 => fun e => (mc e).toSR fun k e1 => match k with
    | false => .nx e1
    | true => (match body e1 with
      | .nx e2 => whileS mc body n e2
      | .ct e2 => whileS mc body n e2
      | .bk e2 => .nx e2
      | .rt s e2 => .rt s e2
      | .exn c e2 => .exn c e2
      | .stuck => .stuck)
theorem xs_while (n : Nat) (hp : PassesOwn (model X.prog X.w) X.A X.env X.xe) (hc : XT X W B c mc) (hb : XSs X W B body ms) : XS X W B (.While c body [] pos) (whileS mc ms n) := by
  obtain ⟨⟨tc, pc, ic⟩⟩ := hc
  obtain ⟨⟨tb, pb, ib⟩⟩ := hb
  refine ⟨⟨_, ps_while hp pc pb, fun G H σ env D E p => ?_⟩⟩
  let N : Nat → St → Hp → Prop := fun i σ' H' => ∃ G' env', ER B X.ct G' H' σ' env' ∧ PostS B X.ct W G' H' (whileS mc ms i env') D
  have hN : ∀ i σ' H', N i σ' H' ↔ ∃ G' env', ER B X.ct G' H' σ' env' ∧ PostS B X.ct W G' H' (whileS mc ms i env') D := fun _ _ _ => Iff.rfl
  refine ⟨N, ⟨n, (hN _ _ _).mpr ⟨G, env, E, p⟩⟩, ?_⟩
  rintro m σ2 H2 hn
  obtain ⟨G2, env2, E2, p2⟩ := (hN _ _ _).mp hn
  cases m with
  | zero => exact p2.elim
  | succ m =>
    have p2 : PostS B X.ct W G2 H2 ((mc env2).toSR fun k e1 => match k with
      | false => .nx e1
      | true => (match ms e1 with
        | .nx e2 => whileS mc ms m e2
        | .ct e2 => whileS mc ms m e2
        | .bk e2 => .nx e2
        | .rt s e2 => .rt s e2
        | .exn c e2 => .exn c e2
        | .stuck => .stuck)) D := p2
    refine ic.runS E2 p2 fun k y env3 G3 H3 _ E3 r3 x3 p3 => ?_
    subst r3
    have f3 := x3.fz E2
    cases k with
    | false =>
      rw [if_neg Bool.false_ne_true]
      exact p3 G3 H3 σ2 E3 f3
    | true =>
      rw [if_pos rfl]
      refine ⟨N m, fun σ' H' p' => ⟨m, Nat.lt_succ_self _, p'⟩, ?_⟩
      refine ib G3 H3 σ2 env3 _ E3 ?_
      have p4 : PostS B X.ct W G2 H2 (match ms env3 with
        | .nx e2 => whileS mc ms m e2
        | .ct e2 => whileS mc ms m e2
        | .bk e2 => .nx e2
        | .rt s e2 => .rt s e2
        | .exn c e2 => .exn c e2
        | .stuck => .stuck) D := p3
      generalize ms env3 = r at p4
      cases r with
      | nx e2 => exact fun G5 H5 σ5 E5 f5 => (hN _ _ _).mpr ⟨G5, e2, E5, PostS.shift (f3.trans f5) p4⟩
      | ct e2 => exact fun G5 H5 σ5 E5 f5 => (hN _ _ _).mpr ⟨G5, e2, E5, PostS.shift (f3.trans f5) p4⟩
      | bk e2 => exact fun G5 H5 σ5 E5 f5 => p4 G5 H5 σ5 E5 (f3.trans f5)
      | rt s e2 => exact fun G5 H5 σ5 v E5 f5 => p4 G5 H5 σ5 v E5 (f3.trans f5)
      | exn c e2 => exact fun G5 H5 σ5 cls E5 f5 => p4 G5 H5 σ5 cls E5 (f3.trans f5)
      | stuck => exact p4
end
end PL

set_option maxRecDepth 100000
namespace PL
open PySem PySem.Spec PyProof.Rows L2

/-! ### the block's own names -/
def wipeE : List Nat → En → En
  | [], e => e
  | v :: vs, e => (wipeE vs e).set v .no
theorem wipeE_length : ∀ (vs : List Nat) (e : En), (wipeE vs e).length = e.length
  | [], _ => rfl
  | v :: vs, e => by unfold wipeE; rw [List.length_set, wipeE_length]
theorem wipeE_out {i : Nat} : ∀ {vs : List Nat} {e : En}, i ∉ vs → (wipeE vs e)[i]? = e[i]?
  | [], _, _ => rfl
  | v :: vs, e, h => by
    unfold wipeE
    rw [List.getElem?_set_ne fun z => h (by rw [z]; exact List.mem_cons_self)]
    exact wipeE_out fun z => h (List.mem_cons_of_mem _ z)
theorem wipeE_some {i : Nat} {s : Sl} : ∀ {vs : List Nat} {e : En}, (wipeE vs e)[i]? = some s → s ≠ .no → i ∉ vs ∧ e[i]? = some s
  | [], _, h, _ => ⟨by simp, h⟩
  | v :: vs, e, h, n => by
    unfold wipeE at h
    rcases getElem?_set_cases h with ⟨_, y⟩ | ⟨z, y⟩
    · exact absurd y n
    · obtain ⟨h1, h2⟩ := wipeE_some y n
      exact ⟨by simp only [List.mem_cons, not_or]; exact ⟨z, h1⟩, h2⟩
theorem wipe_ext {σ σ2 : St} {vs sl : List Nat} (h : Slots sl (wipe σ vs) σ2) (hs : ∀ k ∈ sl, k ∈ vs) : wipe σ2 vs = wipe σ vs := by
  have go : ∀ (ws : List Nat) (a b : St), a.length = b.length → (∀ k, k ∉ ws → a[k]? = b[k]?) → wipe a ws = wipe b ws := by
    intro ws
    induction ws with
    | nil => intro a b hl h; exact List.ext_getElem? fun k => h k (by simp)
    | cons w ws ih =>
      intro a b hl h
      unfold wipe
      apply List.ext_getElem?
      intro k
      by_cases e : w = k
      · subst e
        by_cases hk : w < a.length
        · rw [List.getElem?_set_self (by rw [wipe_length]; exact hk), List.getElem?_set_self (by rw [wipe_length]; omega)]
        · rw [List.getElem?_eq_none (by rw [List.length_set, wipe_length]; omega), List.getElem?_eq_none (by rw [List.length_set, wipe_length]; omega)]
      · rw [List.getElem?_set_ne e, List.getElem?_set_ne e]
        by_cases hk : k ∈ ws
        · -- both forgotten
          have both : ∀ (u : List Nat) (a b : St), a.length = b.length → k ∈ u → (wipe a u)[k]? = (wipe b u)[k]? := by
            intro u
            induction u with
            | nil => intro a b _ hm; cases hm
            | cons x u ihu =>
              intro a b hl hm
              unfold wipe
              by_cases ex : x = k
              · subst ex
                by_cases hx : x < a.length
                · rw [List.getElem?_set_self (by rw [wipe_length]; exact hx), List.getElem?_set_self (by rw [wipe_length]; omega)]
                · rw [List.getElem?_eq_none (by rw [List.length_set, wipe_length]; omega), List.getElem?_eq_none (by rw [List.length_set, wipe_length]; omega)]
              · rw [List.getElem?_set_ne ex, List.getElem?_set_ne ex]
                rcases List.mem_cons.mp hm with z | z
                · exact absurd z.symm ex
                · exact ihu a b hl z
          exact both ws a b hl hk
        · rw [wipe_out hk, wipe_out hk]
          exact h k (by simp only [List.mem_cons, not_or]; exact ⟨fun z => e z.symm, hk⟩)
  have e1 : wipe σ2 vs = wipe (wipe σ vs) vs := go vs σ2 (wipe σ vs) h.1 fun k hk => h.2 k fun z => hk (hs k z)
  have e2 : wipe (wipe σ vs) vs = wipe σ vs := go vs (wipe σ vs) σ (wipe_length _ _) fun k hk => wipe_out hk
  rw [e1, e2]
section
variable {B : Bs} {mg : MG} {G G' G1 G2 Gb : AP} {H H' H1 H2 Hb : Hp} {σ σ' : St} {env env' env1 env2 envb : En}
/-- fewer names -/
theorem ER.sub (E : ER B mg G H σ env) (hl : env'.length = env.length) (hl2 : σ'.length = σ.length) (h : ∀ (i : Nat) (s : Sl), env'[i]? = some s → s ≠ .no → env[i]? = some s ∧ σ'[i]? = σ[i]?) (hio : ∀ i, i < B.np → env'[i]? = env[i]? ∧ σ'[i]? = σ[i]?) : ER B mg G H σ' env' where
  len := by rw [hl, hl2]; exact E.len
  sl := fun i s e n => by
    obtain ⟨h1, h2⟩ := h i s e n
    obtain ⟨v, hv, r⟩ := E.sl i s h1 n
    exact ⟨v, by rw [h2]; exact hv, r⟩
  ds := fun i j s s' a h1 o1 h2 o2 q1 q2 => by
    have n1 : s ≠ .no := by rintro rfl; cases o1
    have n2 : s' ≠ .no := by rintro rfl; cases o2
    obtain ⟨a1, b1⟩ := h i s h1 n1
    obtain ⟨a2, b2⟩ := h j s' h2 n2
    exact E.ds i j s s' a a1 o1 a2 o2 (by rw [← b1]; exact q1) (by rw [← b2]; exact q2)
  io := fun p hp => by
    obtain ⟨q1, q2, s, q3, q4⟩ := E.io p hp
    obtain ⟨a, b⟩ := hio p.1 q1
    exact ⟨q1, by rw [b]; exact q2, s, by rw [a]; exact q3, q4⟩
  f1 := E.f1
  f2 := E.f2
  f3 := E.f3
  f4 := E.f4
  f5 := fun i s a h1 o1 q1 => by
    have n1 : s ≠ .no := by rintro rfl; cases o1
    obtain ⟨a1, b1⟩ := h i s h1 n1
    exact E.f5 i s a a1 o1 (by rw [← b1]; exact q1)
  gt := E.gt
  g0 := E.g0
  lb := E.lb
theorem Ow.sub (h : ∀ (i : Nat) (s : Sl), env'[i]? = some s → s ≠ .no → env[i]? = some s ∧ σ'[i]? = σ[i]?) {b : Addr} (q : Ow σ' env' b) : Ow σ env b := by
  obtain ⟨i, s, e, o, z⟩ := q
  obtain ⟨h1, h2⟩ := h i s e (by rintro rfl; cases o)
  exact ⟨i, s, h1, o, by rw [← h2]; exact z⟩
/-- a guarded thing that no name owns is changed -/
theorem ER.poke {p : Addr} {o o' : HO} (E : ER B mg G H σ env) (g : G p) (n : ¬ Ow σ env p) (h0 : B.H0 p = none) (hp : H p = some o) (f : Fits o') (nt : ∀ xs, o' ≠ .tup xs := by intro xs h; cases h) : ER B mg G (upd H p o') σ env := by
  have fz : Fz G H G (upd H p o') := fun b u gb hb => ⟨by rw [upd_ne fun z => gb (by rw [z]; exact g)]; exact hb, gb⟩
  have dom : ∀ b, H b ≠ none → upd H p o' b ≠ none := fun b hb => by
    by_cases e : b = p
    · subst e; rw [upd_same]; simp
    · rw [upd_ne e]; exact hb
  refine ⟨E.len, fun i s e ns => ?_, E.ds, E.io, fun b u hb hn => ?_, fun b hb => dom b (E.f2 b hb), E.f3, E.f4, E.f5, fun b hb => dom b (E.gt b hb), E.g0, E.lb.upd f fun _ => nt⟩
  · obtain ⟨v, hv, r⟩ := E.sl i s e ns
    refine ⟨v, hv, ?_⟩
    have go : s.own = true → SlR mg G (upd H p o') v s := fun ho => by
      obtain ⟨c, rfl, g', q⟩ := r.of_own ho
      exact .mk_own g' (q.keep fz fun u hu => by rw [upd_ne fun z => n ⟨i, s, e, ho, by rw [hv, z]⟩]; exact hu)
    cases s with
    | no => exact absurd rfl ns
    | im d => exact Dn.keep fz r
    | ol ds => exact go rfl
    | odk ds => exact go rfl
    | odt ds => exact go rfl
  · rw [upd_ne fun z => by rw [z, h0] at hb; cases hb]
    exact E.f1 b u hb hn
end

/-! ### comprehensions -/
def Res.bindN {α β : Type} (r : Res α) (f : α → M β) : Res β := match r with
  | .ok a e => f a e
  | _ => .stuck
@[simp] theorem Res.bindN_ok {α β : Type} (a : α) (e : En) (f : α → M β) : (Res.ok a e).bindN f = f a e := rfl
@[simp] theorem Res.bindN_exn {α β : Type} (c : Str) (e : En) (f : α → M β) : (Res.exn c e : Res α).bindN f = .stuck := rfl
@[simp] theorem Res.bindN_stuck {α β : Type} (f : α → M β) : (Res.stuck : Res α).bindN f = .stuck := rfl
def lcLoop (np : Nat) (vs : List Nat) (mt : MT) (mc : M Bool) (me : M Rf) : List D → M (List D)
  | [] => fun e => .ok [] e
  | d :: ds => fun e => match mt d e with
    | none => .stuck
    | some e1 => (mc e1).bindN fun k e2 => match k with
      | true => ((me e2).bindN (toI np)).bindN fun y e3 => (lcLoop np vs mt mc me ds (wipeE vs e3)).bindN fun r e4 => .ok (y :: r) e4
      | false => lcLoop np vs mt mc me ds (wipeE vs e2)
def mLc (np : Nat) (vs : List Nat) (mi : M (List D)) (mt : MT) (mc : M Bool) (me : M Rf) : M Rf := fun env => (mi env).bind fun ds e => (lcLoop np vs mt mc me ds (wipeE vs e)).bindN fun r e' => .ok (.tmp (.ol r)) e'
abbrev WF : WX := fun _ _ _ _ => False
def mYes : M Bool := fun e => .ok true e
/-- a target's store, as a property of its reading -/
def ImpG (B : Bs) (mg : MG) (sl : List Nat) (g : TG) (mt : MT) : Prop :=
  ∀ G H σ env v d env' Q, ER B mg G H σ env → Dn mg G H v d → mt d env = some env' → (∀ σ', ER B mg G H σ' env' → Slots sl σ σ' → (∀ b, Ow σ' env' b → Ow σ env b) → Q σ' H) → g v σ H Q
theorem bindN_ok_inv {α β : Type} {r : Res α} {f : α → M β} {y : β} {env' : En} (h : r.bindN f = .ok y env') : ∃ x env1, r = .ok x env1 ∧ f x env1 = .ok y env' := by
  cases r with
  | ok x env1 => exact ⟨x, env1, rfl, h⟩
  | exn c e => cases h
  | stuck => cases h
theorem lcLoop_nox {np : Nat} {vs : List Nat} {mt : MT} {mc : M Bool} {me : M Rf} : ∀ {ds : List D} {e : En} c e', lcLoop np vs mt mc me ds e ≠ .exn c e' := by
  intro ds
  induction ds with
  | nil => intro e c e' h; cases h
  | cons d ds ih =>
    intro e c e' h
    unfold lcLoop at h
    split at h
    · cases h
    · rename_i e1 _
      cases q : mc e1 with
      | exn _ _ => rw [q] at h; cases h
      | stuck => rw [q] at h; cases h
      | ok k e2 =>
        rw [q, Res.bindN_ok] at h
        cases k with
        | false => exact ih c e' h
        | true =>
          cases q2 : (me e2).bindN (toI np) with
          | exn _ _ => simp only [q2] at h; cases h
          | stuck => simp only [q2] at h; cases h
          | ok y e3 =>
            simp only [q2, Res.bindN_ok] at h
            cases q3 : lcLoop np vs mt mc me ds (wipeE vs e3) with
            | exn _ _ => rw [q3] at h; cases h
            | stuck => rw [q3] at h; cases h
            | ok r e4 => rw [q3] at h; cases h
theorem imp_lc {B : Bs} {mg : MG} {W : WX} {np : Nat} {vs sl : List Nat} {wi : TI} {g : TG} {tt : TT} {te : TE} {mi : M (List D)} {mt : MT} {mc : M Bool} {me : M Rf} (hnp : B.np ≤ np) (hvs : ∀ v ∈ vs, np ≤ v) (hsl : ∀ k ∈ sl, k ∈ vs)
    (ii : Imp B mg W (rI mg) wi mi) (ig : ImpG B mg sl g mt) (it : Imp B mg WF rB tt mc) (ie : Imp B mg WF (rV mg) te me) : Imp B mg W (rV mg) (tLc wi g tt te vs) (mLc np vs mi mt mc me) := fun G H σ env Q E p => by
  refine ii.run E Ext.refl p fun J ds env1 G1 H1 _ E1 w _ x1 p => ?_
  intro C hC
  have hC0 : H C = none := back_none x1.e2 hC
  have n1 := New.updG (o := .lst []) E1.gt hC (Nat.zero_le _)
  -- the frame without the block's names
  have wp : ∀ {G' : AP} {H' : Hp} {σ2 : St} {e : En}, ER B mg G' H' σ2 e → σ2.length = σ.length → (∀ k, k ∉ vs → σ2[k]? = σ[k]?) → ER B mg G' H' (wipe σ vs) (wipeE vs e) := fun {G' H' σ2 e} E' hl hk =>
    E'.sub (wipeE_length _ _) (by rw [wipe_length, hl]) (fun i s h n => by
      obtain ⟨a, b⟩ := wipeE_some h n
      exact ⟨b, by rw [wipe_out a, hk i a]⟩) fun i hi => by
      have a : i ∉ vs := fun z => by have := hvs i z; omega
      exact ⟨wipeE_out a, by rw [wipe_out a, hk i a]⟩
  have uw : ∀ {G' : AP} {H' : Hp} {e : En}, ER B mg G' H' (wipe σ vs) (wipeE vs e) → ER B mg G' H' σ (wipeE vs e) := fun {G' H' e} E' =>
    E'.sub rfl (wipe_length _ _).symm (fun i s h n => ⟨h, by rw [wipe_out (wipeE_some h n).1]⟩) fun i hi => by
      have a : i ∉ vs := fun z => by have := hvs i z; omega
      exact ⟨rfl, by rw [wipe_out a]⟩
  have ow1 : ∀ {e : En} {b : Addr}, Ow σ (wipeE vs e) b → Ow (wipe σ vs) (wipeE vs e) b := fun {e b} q => q.sub fun i s h n => ⟨h, by rw [wipe_out (wipeE_some h n).1]⟩
  have ow2 : ∀ {e : En} {b : Addr}, Ow (wipe σ vs) (wipeE vs e) b → Ow σ (wipeE vs e) b := fun {e b} q => q.sub fun i s h n => ⟨h, by rw [wipe_out (wipeE_some h n).1]⟩
  let N : Nat → Hp → Prop := fun i H' => ∃ (G' : AP) (e : En) (acc : List V) (out : List D), ER B mg G' H' (wipe σ vs) (wipeE vs e) ∧ G' C ∧ ¬ Ow σ (wipeE vs e) C ∧ H' C = some (.lst acc) ∧ DnA mg G' H' acc out ∧ acc.length ≤ i ∧ Ext G H G' H' σ env (wipeE vs e) ∧ Fz G1 H1 G' H' ∧
    Post B mg W (rV mg) G H σ env ((lcLoop np vs mt mc me (ds.drop i) (wipeE vs e)).bindN fun r e' => .ok (.tmp (.ol (out ++ r))) e') Q
  have hN : ∀ i H', N i H' ↔ ∃ (G' : AP) (e : En) (acc : List V) (out : List D), ER B mg G' H' (wipe σ vs) (wipeE vs e) ∧ G' C ∧ ¬ Ow σ (wipeE vs e) C ∧ H' C = some (.lst acc) ∧ DnA mg G' H' acc out ∧ acc.length ≤ i ∧ Ext G H G' H' σ env (wipeE vs e) ∧ Fz G1 H1 G' H' ∧
    Post B mg W (rV mg) G H σ env ((lcLoop np vs mt mc me (ds.drop i) (wipeE vs e)).bindN fun r e' => .ok (.tmp (.ol (out ++ r))) e') Q := fun _ _ => Iff.rfl
  have owE : ∀ {σ2 : St} {e : En} {b : Addr}, (∀ k, k ∉ vs → σ2[k]? = σ[k]?) → Ow (wipe σ vs) (wipeE vs e) b → Ow σ2 e b := fun {σ2 e b} hk q => q.sub fun i s h n => by
    obtain ⟨a, z⟩ := wipeE_some h n
    exact ⟨z, by rw [wipe_out a, hk i a]⟩
  refine ⟨fun i m H' => m = ds.length - i ∧ i ≤ ds.length ∧ N i H', ⟨ds.length, by simp, Nat.zero_le _, (hN _ _).mpr ⟨_, env1, [], [], wp (E1.new n1) rfl fun _ _ => rfl, .inr rfl, fun q => ?_, upd_same, .nil, Nat.le_refl _, ?_, n1.fz, p⟩⟩, ?_⟩
  · exact E1.ow_there (owE (fun _ _ => rfl) (ow1 q)) hC
  · have x2 := x1.trans (n1.ext (σ := σ) (env := env1))
    exact ⟨x2.e1, x2.e2, x2.e3, x2.e4, fun b q => x2.e5 b (owE (fun _ _ => rfl) (ow1 q))⟩
  · rintro i m H2 ⟨rfl, hi, hn⟩
    obtain ⟨G2, e2, acc, out, E2, gC, oC, aC, dA, lA, x2, f2, p2⟩ := (hN _ _).mp hn
    by_cases hlt : i < ds.length
    · refine .inr ⟨w.go G2 H2 i f2 hlt, N (i + 1), fun H' p' => ⟨ds.length - (i + 1), by omega, rfl, hlt, p'⟩, fun x H3 hy => ?_⟩
      obtain ⟨d, hd, n3, dn⟩ := w.yld G2 H2 i x H3 f2 E2.gt E2.lb hlt hy
      rw [drop_cons hd] at p2
      unfold lcLoop at p2
      split at p2
      · exact p2.elim
      · rename_i e3 he3
        have E3 := E2.new n3
        refine ig G2 H3 (wipe σ vs) (wipeE vs e2) x d e3 _ E3 dn he3 fun σ4 E4 s4 o4 => ⟨wipe_ext s4 hsl, ?_⟩
        have l4 : σ4.length = σ.length := by rw [s4.1, wipe_length]
        have k4 : ∀ k, k ∉ vs → σ4[k]? = σ[k]? := fun k hk => by rw [s4.2 k fun z => hk (hsl k z), wipe_out hk]
        have oC4 : ¬ Ow σ4 e3 C := fun q => oC (ow2 (o4 C q))
        refine it G2 H3 σ4 e3 _ E4 ?_
        generalize hmc : mc e3 = rc at p2
        cases rc with
        | exn c e => exact p2.elim
        | stuck => exact p2.elim
        | ok k e5 =>
          rw [Res.bindN_ok] at p2
          intro G5 H5 b E5 rb x5
          subst rb
          have aC3 : H3 C = some (.lst acc) := n3.k _ _ aC
          have aC5 : H5 C = some (.lst acc) := x5.e1 C _ aC3 oC4
          have gC5 : G5 C := x5.e4 C (n3.g C gC) oC4
          have oC5 : ¬ Ow σ4 e5 C := fun q => oC4 (x5.e5 C q)
          have fz5 : Fz G2 H2 G5 H5 := n3.fz.trans (x5.fz E4)
          -- the state behind, over the block's start
          have xs : ∀ {G' : AP} {H' : Hp} {e : En}, Ext G2 H3 G' H' σ4 e3 e → Ext G H G' H' σ env (wipeE vs e) := fun {G' H' e} z => by
            have y : Ext G H G2 H3 σ env (wipeE vs e2) := x2.trans (n3.ext (σ := σ) (env := wipeE vs e2))
            refine ⟨fun c o h nn => z.e1 c o (y.e1 c o h nn) fun q => nn (y.e5 c (ow2 (o4 c q))), fun c h => z.e2 c (y.e2 c h), fun c h => ?_, fun c h nn => z.e4 c (y.e4 c h nn) fun q => nn (y.e5 c (ow2 (o4 c q))), fun c q => y.e5 c (ow2 (o4 c (z.e5 c (owE k4 (ow1 q)))))⟩
            rcases z.e3 c h with q | q
            · exact y.e3 c q
            · exact .inr (back_none y.e2 q)
          cases b with
          | false =>
            rw [if_neg Bool.false_ne_true]
            exact (hN _ _).mpr ⟨G5, e5, acc, out, wp E5 l4 k4, gC5, fun q => oC5 (owE k4 (ow1 q)), aC5, dA.keep fz5, Nat.le_succ_of_le lA, xs x5, f2.trans fz5, p2⟩
          | true =>
            rw [if_pos rfl]
            refine ie G5 H5 σ4 e5 _ E5 ?_
            generalize hme : me e5 = re at p2
            cases re with
            | exn c e => exact p2.elim
            | stuck => exact p2.elim
            | ok y e6 =>
              intro G6 H6 v E6 rv x6
              rw [Res.bindN_ok] at p2
              generalize hti : toI np y e6 = rt at p2
              cases rt with
              | exn c e => exact p2.elim
              | stuck => exact p2.elim
              | ok dd e7 =>
                rw [Res.bindN_ok] at p2
                have h05 : ∀ b, B.H0 b ≠ none → H5 b ≠ none := E5.f2
                obtain ⟨G7, E7, dn7, x7, th7, ow7⟩ := toI_ok E5.gt E5.f2 E6 x6 rv hnp hti
                have aC7 : H6 C = some (.lst acc) := x6.e1 C _ aC5 oC5
                have gC7 : G7 C := x7.e4 C gC5 oC5
                have oC7 : ¬ Ow σ4 e7 C := fun q => oC5 (x7.e5 C q)
                refine ⟨acc, aC7, Nat.lt_of_le_of_lt lA (Nat.lt_of_lt_of_le hlt w.len), ?_⟩
                have hz : (acc ++ [v]).length ≤ sizeLine := by
                  rw [List.length_append, List.length_singleton]
                  have := w.len
                  omega
                have E8 := E7.poke (o' := .lst (acc ++ [v])) gC7 oC7 (E.dom0 hC0) aC7 hz
                have fz8 : Fz G7 H6 G7 (upd H6 C (.lst (acc ++ [v]))) := fun b u gb hb => ⟨by rw [upd_ne fun z => gb (by rw [z]; exact gC7)]; exact hb, gb⟩
                have fzA : Fz G2 H2 G7 (upd H6 C (.lst (acc ++ [v]))) := (fz5.trans (x7.fz E5)).trans fz8
                have x9 := xs (x5.trans x7)
                refine (hN _ _).mpr ⟨G7, e7, acc ++ [v], out ++ [dd], wp E8 l4 k4, gC7, fun q => oC7 (owE k4 (ow1 q)), upd_same, (dA.keep fzA).append (.cons (dn7.keep fz8) .nil), ?_, ?_, f2.trans fzA, ?_⟩
                · rw [List.length_append, List.length_singleton]; omega
                · refine ⟨fun c o h nn => ?_, fun c h => ?_, x9.e3, x9.e4, x9.e5⟩
                  · rw [upd_ne fun z => by rw [z, hC0] at h; cases h]
                    exact x9.e1 c o h nn
                  · by_cases e : c = C
                    · subst e; rw [upd_same]; simp
                    · rw [upd_ne e]; exact x9.e2 c h
                · generalize hlp : lcLoop np vs mt mc me (ds.drop (i + 1)) (wipeE vs e7) = rl at p2 ⊢
                  cases rl with
                  | exn c e => exact p2.elim
                  | stuck => exact p2.elim
                  | ok r e => 
                    have p3 : Post B mg W (rV mg) G H σ env (.ok (.tmp (.ol (out ++ dd :: r))) e) Q := p2
                    rw [Res.bindN_ok, List.append_assoc]
                    exact p3
    · have e : i = ds.length := by omega
      subst e
      rw [List.drop_length] at p2
      refine .inl ⟨w.stop G2 H2 _ f2 (Nat.le_refl _), ?_⟩
      have p3 : Post B mg W (rV mg) G H σ env (.ok (.tmp (.ol (out ++ []))) (wipeE vs e2)) Q := p2
      rw [List.append_nil] at p3
      exact p3 G2 H2 (.ref C) (uw E2) ⟨C, rfl, ⟨gC, hC0, acc, aC, dA⟩, oC⟩ x2
end PL

set_option maxRecDepth 100000
namespace PL
open PySem PySem.Spec PyProof.Rows L2

/-! ### one reading for a family of contexts -/
section
variable {ι : Type} {Xi : ι → Cx} {c : MG} {W : WX} {B : Bs} {e tg : Expr} {ifs : List Expr} {m : M Rf} {mc : M Bool} {sl : List Nat} {mt : MT} {mi : M (List D)}
structure XTs (X : Cx) (W : WX) (B : Bs) (ifs : List Expr) (m : M Bool) : Prop where
  ex : ∃ t : TT, PTs X ifs t ∧ Imp B X.ct W rB t m
theorem xts0 {X : Cx} : XTs X W B [] mYes := ⟨⟨_, pts_nil, fun G H σ env Q E p => p G H true E rfl Ext.refl⟩⟩
theorem xts1 {X : Cx} {a : Expr} (h : XT X W B a mc) : XTs X W B [a] mc := by
  obtain ⟨⟨t, pt, it⟩⟩ := h
  exact ⟨⟨t, pts_one pt, it⟩⟩
theorem uni_E (hc : ∀ i, (Xi i).ct = c) (h : ∀ i, XE (Xi i) W B e m) : ∃ t : TE, (∀ i, PE (Xi i) e t) ∧ Imp B c W (rV c) t m := by
  refine ⟨fun σ H Q => ∀ t' : TE, (∃ i, PE (Xi i) e t' ∧ Imp B c W (rV c) t' m) → t' σ H Q, fun i => ⟨fun pins s σ H Q I z => ?_⟩, fun G H σ env Q E p t' ⟨i, _, z⟩ => z G H σ env Q E p⟩
  obtain ⟨⟨t, pt, it⟩⟩ := h i
  rw [hc i] at it
  exact pt.run pins s σ H Q I (z t ⟨i, pt, it⟩)
theorem uni_T (hc : ∀ i, (Xi i).ct = c) (h : ∀ i, XTs (Xi i) W B ifs mc) : ∃ t : TT, (∀ i, PTs (Xi i) ifs t) ∧ Imp B c W rB t mc := by
  refine ⟨fun σ H Q => ∀ t' : TT, (∃ i, PTs (Xi i) ifs t' ∧ Imp B c W rB t' mc) → t' σ H Q, fun i => ⟨fun pins s σ H Q I z => ?_⟩, fun G H σ env Q E p t' ⟨i, _, z⟩ => z G H σ env Q E p⟩
  obtain ⟨⟨t, pt, it⟩⟩ := h i
  rw [hc i] at it
  exact pt.run pins s σ H Q I (z t ⟨i, pt, it⟩)
theorem uni_G (hc : ∀ i, (Xi i).ct = c) (h : ∀ i, XG (Xi i) B tg sl mt) : ∃ t : TG, (∀ i, PG (Xi i) tg t) ∧ ImpG B c sl t mt := by
  refine ⟨fun v σ H Q => ∀ t' : TG, (∃ i, PG (Xi i) tg t' ∧ ImpG B c sl t' mt) → t' v σ H Q, fun i => ⟨fun pins s σ H v u Q I r z => ?_⟩, fun G H σ env v d env' Q E dn h q t' ⟨i, _, z⟩ => z G H σ env v d env' Q E dn h q⟩
  obtain ⟨⟨t, pt, it⟩⟩ := h i
  rw [hc i] at it
  exact pt.run pins s σ H v u Q I r (z t ⟨i, pt, it⟩)
theorem uni_I {iter : Expr} (hc : ∀ i, (Xi i).ct = c) (h : ∀ i, XI (Xi i) W B tg iter mi) : ∃ t : TI, (∀ i, PI (Xi i) tg iter t) ∧ Imp B c W (rI c) t mi := by
  refine ⟨fun σ H Q => ∀ t' : TI, (∃ i, PI (Xi i) tg iter t' ∧ Imp B c W (rI c) t' mi) → t' σ H Q, fun i => ⟨fun pins s σ H Q I z => ?_⟩, fun G H σ env Q E p t' ⟨i, _, z⟩ => z G H σ env Q E p⟩
  obtain ⟨⟨t, pt, it⟩⟩ := h i
  rw [hc i] at it
  exact pt.run pins s σ H Q I (z t ⟨i, pt, it⟩)
end
/-- the place of a block -/
structure Bk where
  s : Shared
  H : Hp
  C : Addr
  cl : List (Str × Addr)
  fp : List Addr
abbrev blkX (X : Cx) (scope : Scope) (b : Bk) : Cx := X.blk b.s b.H scope (compEnvC scope b.cl b.C X.env) b.fp
section
variable {X : Cx} {W : WX} {B : Bs} {elt tg iter : Expr} {ifs : List Expr} {scope : Scope} {own : List (Str × Nat)} {pos spos py : Pos} {np : Nat} {vs sl : List Nat} {mi : M (List D)} {mt : MT} {mc : M Bool} {me : M Rf}
theorem lc_parts (hc : X.calm = true) (hN : X.N.Nodup) (hi : XI X W B tg iter mi) (ok : BlkOk X.N X.env.scope scope own) (hg : ∀ b, XG (blkX X scope b) B tg sl mt) (ht : ∀ b, XTs (blkX X scope b) WF B ifs mc) (he : ∀ b, XE (blkX X scope b) WF B elt me)
    (hnp : B.np ≤ np) (hvs : ∀ v ∈ own.map (·.2), np ≤ v) (hsl : ∀ k ∈ sl, k ∈ own.map (·.2)) :
    ∃ (wi : TI) (g : TG) (tt : TT) (te : TE), PI X tg iter wi ∧ (∀ b, PG (blkX X scope b) tg g) ∧ (∀ b, PTs (blkX X scope b) ifs tt) ∧ (∀ b, PE (blkX X scope b) elt te) ∧ Imp B X.ct W (rV X.ct) (tLc wi g tt te (own.map (·.2))) (mLc np (own.map (·.2)) mi mt mc me) := by
  obtain ⟨⟨wi, pi, ii⟩⟩ := hi
  obtain ⟨g, pg, ig⟩ := uni_G (Xi := blkX X scope) (c := X.ct) (fun _ => rfl) hg
  obtain ⟨tt, pt, it⟩ := uni_T (Xi := blkX X scope) (c := X.ct) (fun _ => rfl) ht
  obtain ⟨te, pe, ie⟩ := uni_E (Xi := blkX X scope) (c := X.ct) (fun _ => rfl) he
  exact ⟨wi, g, tt, te, pi, pg, pt, pe, imp_lc hnp hvs hsl ii ig it ie⟩
theorem xlc (hc : X.calm = true) (hN : X.N.Nodup) (hi : XI X W B tg iter mi) (ok : BlkOk X.N X.env.scope scope own) (hg : ∀ b, XG (blkX X scope b) B tg sl mt) (ht : ∀ b, XTs (blkX X scope b) WF B ifs mc) (he : ∀ b, XE (blkX X scope b) WF B elt me)
    (hnp : B.np ≤ np) (hvs : ∀ v ∈ own.map (·.2), np ≤ v) (hsl : ∀ k ∈ sl, k ∈ own.map (·.2)) (hs : ∀ x, foldedSetIterable iter X.env x = pure x := by intro _; rfl) :
    XE X W B (.ListComp elt [⟨tg, iter, ifs, 0⟩] scope pos) (mLc np (own.map (·.2)) mi mt mc me) := by
  obtain ⟨wi, g, tt, te, pi, pg, pt, pe, im⟩ := lc_parts hc hN hi ok hg ht he hnp hvs hsl
  exact .by_ (pe_lc hc hN pi ok (fun s H C cl fp => pg ⟨s, H, C, cl, fp⟩) (fun s H C cl fp => pt ⟨s, H, C, cl, fp⟩) (fun s H C cl fp => pe ⟨s, H, C, cl, fp⟩) hs) im
theorem xs_setLc {i : Nat} {y : Str} (hc : X.calm = true) (hN : X.N.Nodup) (hi : XI X W B tg iter mi) (ok : BlkOk X.N X.env.scope scope own) (hg : ∀ b, XG (blkX X scope b) B tg sl mt) (ht : ∀ b, XTs (blkX X scope b) WF B ifs mc) (he : ∀ b, XE (blkX X scope b) WF B elt me)
    (hnp : B.np ≤ np) (hvs : ∀ v ∈ own.map (·.2), np ≤ v) (hsl : ∀ k ∈ sl, k ∈ own.map (·.2)) (hsw : swapsWith (.ListComp elt [⟨tg, iter, ifs, 0⟩] scope pos) (some (.Name y py)) spos.line X.env = pure true) (hy : X.N[i]? = some y := by rfl) (hyl : X.env.scope.names.lookup y = some .local := by rfl)
    (hs : ∀ x, foldedSetIterable iter X.env x = pure x := by intro _; rfl) : XS X W B (.Assign [.Name y py] (.ListComp elt [⟨tg, iter, ifs, 0⟩] scope pos) spos) (sSet np i (mLc np (own.map (·.2)) mi mt mc me)) := by
  obtain ⟨wi, g, tt, te, pi, pg, pt, pe, im⟩ := lc_parts hc hN hi ok hg ht he hnp hvs hsl
  refine ⟨⟨_, ps_setLc (i := i) hc hN hy hyl hsw pi ok (fun s H C cl fp => pg ⟨s, H, C, cl, fp⟩) (fun s H C cl fp => pt ⟨s, H, C, cl, fp⟩) (fun s H C cl fp => pe ⟨s, H, C, cl, fp⟩) hs, fun G H σ env D E p => ?_⟩⟩
  have p : PostS B X.ct W G H ((mLc np (own.map (·.2)) mi mt mc me env).toSR fun x e => (toS np x e).toSR fun s e => sStore np i s e) D := by
    have q : ((mLc np (own.map (·.2)) mi mt mc me env).bind (toS np)).toSR (fun s e => sStore np i s e) = (mLc np (own.map (·.2)) mi mt mc me env).toSR fun x e => (toS np x e).toSR fun s e => sStore np i s e := by cases mLc np (own.map (·.2)) mi mt mc me env <;> rfl
    rw [← q]; exact p
  refine im.runS E p fun x y env1 G1 H1 _ E1 r1 x1 p => ?_
  obtain ⟨s, e2, h2, p⟩ := PostS.inv p toS_nox
  obtain ⟨G2, E2, sr, _, hs, _, fz2⟩ := toS_ok E.gt E.f2 E1 x1 r1 hnp h2
  exact post_store E2 hnp sr hs ((x1.fz E).trans fz2) p
end

/-! ### what is walked -/
section
variable {X : Cx} {W : WX} {B : Bs} {tg e a b c : Expr} {m ma mb mc : M Rf} {p pos : Pos} {np : Nat}
theorem PI.or {iter : Expr} {wi wi' : TI} (h : PI X tg iter wi) (h' : PI X tg iter wi') : PI X tg iter (fun σ H R => wi σ H R ∨ wi' σ H R) := ⟨fun pins s σ H R I z => z.elim (h.run pins s σ H R I) (h'.run pins s σ H R I)⟩
/-- the items of a list or tuple; a temporary list is shared from now on (no name has it), a name's own list too -/
def mSeq (np : Nat) (m : M Rf) : M (List D) := m.bind fun x => M.bind (toI np x) fun d env => match d with
  | .list ds => .ok ds env
  | .tuple ds => .ok ds env
  | _ => .stuck
theorem KL.vals {K : PySem.W.Frag} {a : Addr} {xs ys : List V} (h : KL K a xs) (h' : KL K a ys) : xs = ys := by
  obtain ⟨o, its, n, e, _, _, d, _, r⟩ := h
  obtain ⟨o', its', n', e', _, _, d', _, r'⟩ := h'
  rw [e] at e'; cases e'
  rw [d] at d'
  injection d' with d1 _
  subst d1
  exact r.inj r'
theorem KL.le {K : PySem.W.Frag} {a : Addr} {xs : List V} (h : KL K a xs) : xs.length ≤ sizeLine := by
  obtain ⟨o, its, n, e, _, _, d, hz, r⟩ := h
  have q : List.length xs = its.toList.length := Vals.length r
  rw [Array.length_toList] at q
  exact Nat.le_trans (Nat.le_of_eq q) hz
theorem walks_list {mg : MG} {G1 : AP} {H1 : Hp} {a : Addr} {ds : List D} (h : Dn mg G1 H1 (.ref a) (.list ds)) (lb : LB G1 H1) : Walks mg G1 H1 (Itl mg.K a) ds ∧ ∃ xs, SqL mg.K H1 a xs := by
  have key : ∃ xs, DnA mg G1 H1 xs ds ∧ xs.length ≤ sizeLine ∧ ∀ G H, Fz G1 H1 G H → SqL mg.K H a xs := by
    cases h with
    | lst g r d => exact ⟨_, d, lb.1 a _ (.inr (.inl r)), fun G H f => .of (f _ _ g r).1⟩
  obtain ⟨xs, hd, ln, sq⟩ := key
  refine ⟨⟨fun G H i f hi => ?_, fun G H i x H' f gt _ _ hy => ?_, fun G H i f hi => ⟨xs, sq G H f, by rw [hd.length]; exact hi⟩, by rw [← hd.length]; exact ln⟩, xs, sq G1 H1 Fz.refl⟩
  · have hx : i < xs.length := by rw [hd.length]; exact hi
    exact ⟨xs, xs[i], sq G H f, List.getElem?_eq_getElem hx⟩
  · obtain ⟨rfl, y⟩ := hy
    obtain ⟨d, h1, h2⟩ := hd.get' (y xs (sq G _ f))
    exact ⟨d, h1, New.refl gt, h2.keep f⟩
theorem walks_tup {mg : MG} {G1 : AP} {H1 : Hp} {a : Addr} {ds : List D} (h : Dn mg G1 H1 (.ref a) (.tuple ds)) (lb : LB G1 H1) : Walks mg G1 H1 (Itt mg.K a) ds ∧ ∃ xs, SqT mg.K H1 a xs := by
  cases h with
  | @tup _ xs _ g r hd =>
    have sq : ∀ G H, Fz G1 H1 G H → SqT mg.K H a xs := fun G H f => .of (f _ _ g r).1
    refine ⟨⟨fun G H i f hi => ?_, fun G H i x H' f gt _ _ hy => ?_, fun G H i f hi => ⟨xs, sq G H f, by rw [hd.length]; exact hi⟩, by rw [← hd.length]; exact lb.1 a _ (.inl r)⟩, xs, sq G1 H1 Fz.refl⟩
    · have hx : i < xs.length := by rw [hd.length]; exact hi
      exact ⟨xs, xs[i], sq G H f, List.getElem?_eq_getElem hx⟩
    · obtain ⟨rfl, y⟩ := hy
      obtain ⟨d, h1, h2⟩ := hd.get' (y xs (sq G _ f))
      exact ⟨d, h1, New.refl gt, h2.keep f⟩
theorem Walks.shift {mg : MG} {G1 G2 : AP} {H1 H2 : Hp} {J : It} {ds : List D} (w : Walks mg G1 H1 J ds) (f : Fz G1 H1 G2 H2) : Walks mg G2 H2 J ds :=
  ⟨fun G H i z => w.go G H i (f.trans z), fun G H i x H' z => w.yld G H i x H' (f.trans z), fun G H i z => w.stop G H i (f.trans z), w.len⟩
/-- a list or a tuple, walked -/
theorem xi_seq (hnp : B.np ≤ np) (h : XE X W B e m) : XI X W B tg e (mSeq np m) := by
  obtain ⟨⟨t, pt, it⟩⟩ := h
  refine ⟨⟨_, PI.or (pi_list pt) (pi_tup pt), fun G H σ env R E p => ?_⟩⟩
  -- which of the two
  have go : ∀ (K : V → Hp → Prop), (∀ v a G2 H2 env2 d ds, ER B X.ct G2 H2 σ env2 → v = .ref a → (d = .list ds ∨ d = .tuple ds) → Dn X.ct G2 H2 v d → Ext G H G2 H2 σ env env2 → Post B X.ct W (rI X.ct) G H σ env (.ok ds env2) R → (∃ env1 x, m env = .ok x env1 ∧ toI np x env1 = .ok d env2) → ∀ H1, H1 = H2 → K v H1) → t σ H K := fun K k => by
    refine it.run E Ext.refl p fun v x env1 G1 H1 hm E1 r1 _ x1 p => ?_
    obtain ⟨d, env2, h2, p⟩ := Post.inv p toI_nox
    obtain ⟨G2, E2, dn, x2, _, _⟩ := toI_ok E.gt E.f2 E1 x1 r1 hnp h2
    split at p
    · rename_i ds
      have hv : ∃ a, v = .ref a := by cases dn <;> exact ⟨_, rfl⟩
      obtain ⟨a, rfl⟩ := hv
      exact k _ a G2 H1 env2 _ ds E2 rfl (.inl rfl) dn x2 p ⟨env1, x, hm, h2⟩ H1 rfl
    · rename_i ds
      have hv : ∃ a, v = .ref a := by cases dn <;> exact ⟨_, rfl⟩
      obtain ⟨a, rfl⟩ := hv
      exact k _ a G2 H1 env2 _ ds E2 rfl (.inr rfl) dn x2 p ⟨env1, x, hm, h2⟩ H1 rfl
    · exact p.elim
  by_cases hl : ∃ env1 x ds env2, m env = .ok x env1 ∧ toI np x env1 = .ok (.list ds) env2
  · refine .inl (go _ fun v a G2 H2 env2 d ds E2 hv hd dn x2 p hm H1 e => ?_)
    subst hv e
    obtain ⟨e1, x, ds', e2, q1, q2⟩ := hl
    obtain ⟨e1', x', q1', q2'⟩ := hm
    rw [q1] at q1'
    cases q1'
    rw [q2] at q2'
    cases q2'
    rcases hd with hd | hd
    · cases hd
      obtain ⟨w, xs, sq⟩ := walks_list dn E2.lb
      exact ⟨a, rfl, ⟨xs, sq⟩, p G2 _ _ E2 w x2⟩
    · cases hd
  · refine .inr (go _ fun v a G2 H2 env2 d ds E2 hv hd dn x2 p hm H1 e => ?_)
    subst hv e
    obtain ⟨e1', x', q1', q2'⟩ := hm
    rcases hd with hd | hd
    · subst hd
      exact absurd ⟨_, _, _, _, q1', q2'⟩ hl
    · subst hd
      obtain ⟨w, xs, sq⟩ := walks_tup dn E2.lb
      exact ⟨a, rfl, ⟨xs, sq⟩, p G2 _ _ E2 w x2⟩
def rangeD (lo : Int) (n : Nat) : List D := (List.range n).map fun i => .int (lo + (i : Nat))
theorem walks_range {mg : MG} {G1 : AP} {H1 : Hp} {lo : Int} {n : Nat} (hn : n ≤ sizeLine) : Walks mg G1 H1 (Itr lo n) (rangeD lo n) := by
  have hl : (rangeD lo n).length = n := by unfold rangeD; rw [List.length_map, List.length_range]
  refine ⟨fun G H i f hi => by rw [hl] at hi; exact hi, fun G H i x H' f gt _ hi hy => ?_, fun G H i f hi => by rw [hl] at hi; exact hi, by rw [hl]; exact hn⟩
  obtain ⟨rfl, rfl⟩ := hy
  rw [hl] at hi
  exact ⟨.int (lo + (i : Nat)), by unfold rangeD; rw [List.getElem?_map, List.getElem?_range hi]; rfl, New.refl gt, .int _⟩
def mRng1 (ma : M Rf) : M (List D) := ma.bind fun x env => match x with
  | .im (.int j) => if j ≤ 1000000 ∧ -1000000 ≤ j then .ok (rangeD 0 j.toNat) env else .stuck
  | _ => .stuck
def mRng2 (ma mb : M Rf) : M (List D) := ma.bind fun x => mb.bind fun y env => match x, y with
  | .im (.int i), .im (.int j) => if (-1000000 ≤ i ∧ i ≤ 1000000) ∧ (-1000000 ≤ j ∧ j ≤ 1000000) then .ok (rangeD i (j - i).toNat) env else .stuck
  | _, _ => .stuck
theorem small_le {n : Nat} (h : n ≤ 2000000) : n ≤ sizeLine := by rw [sizeLine_eq]; omega
theorem xi_rng1 (hm : X.mg "range" = none) (ha : XE X W B a ma) (hg : Gl X "range" := by rfl) (hs : starEach [a] X.env = [(false, eval a X.env)] := by rfl) : XI X W B tg (.Call (.Name "range" p) [a] [] pos) (mRng1 ma) := by
  obtain ⟨⟨t, pt, it⟩⟩ := ha
  refine ⟨⟨_, pi_range1 hg hm (pa_cons pt pa_nil (by rw [hs]; rfl)) hs, fun G H σ env R E q => ?_⟩⟩
  refine it.run E Ext.refl q fun v x env1 G1 H1 hm1 E1 r1 _ x1 q => ?_
  split at q
  · rename_i j
    split at q
    · rename_i hj
      have r1 : Dn X.ct G1 H1 v (.int j) := r1
      cases r1
      exact ⟨j, rfl, by omega, by omega, q G1 H1 _ E1 (walks_range (small_le (by omega))) x1⟩
    · exact q.elim
  · exact q.elim
theorem xi_rng2 (hm : X.mg "range" = none) (ha : XE X W B a ma) (hb : XE X W B b mb) (hg : Gl X "range" := by rfl) (hs : starEach [a, b] X.env = [(false, eval a X.env), (false, eval b X.env)] := by rfl) (hs2 : starEach [b] X.env = [(false, eval b X.env)] := by rfl) :
    XI X W B tg (.Call (.Name "range" p) [a, b] [] pos) (mRng2 ma mb) := by
  obtain ⟨⟨t, pt, it⟩⟩ := ha
  obtain ⟨⟨u, pu, iu⟩⟩ := hb
  refine ⟨⟨_, pi_range2 hg hm (pa_cons pt (pa_cons pu pa_nil (by rw [hs2]; rfl)) (by rw [hs, hs2])) hs hs2, fun G H σ env R E q => ?_⟩⟩
  refine it.run E Ext.refl q fun v x env1 G1 H1 hm1 E1 r1 _ x1 q => ?_
  refine iu.run E1 x1 q fun v' y env2 G2 H2 hm2 E2 r2 e2 x2 q => ?_
  split at q
  · rename_i i j _
    split at q
    · rename_i hj
      have r1 : Dn X.ct G1 H1 v (.int i) := r1
      have r2 : Dn X.ct G2 H2 v' (.int j) := r2
      cases r1
      cases r2
      exact ⟨i, j, rfl, ⟨by omega, by omega, by omega, by omega⟩, q G2 H2 _ E2 (walks_range (small_le (by omega))) x2⟩
    · exact q.elim
  · exact q.elim
end
end PL

set_option maxRecDepth 100000
namespace PL
open PySem PySem.Spec PyProof.Rows L2

/-! ### defs -/
inductive FR where
  | ok (r : Sl) (outs : List Sl) | exn (c : Str) (outs : List Sl) | stuck
/-- a def: its arguments (those of fl are objects that it may change), what it hands back, what it leaves of those -/
abbrev Fn := List Sl → FR
inductive ArgR (mg : MG) (G : AP) (H : Hp) : List Bool → List V → List Sl → Prop
  | nil : ArgR mg G H [] [] []
  | im {fl : List Bool} {v : V} {vs : List V} {d : D} {as : List Sl} : Dn mg G H v d → ArgR mg G H fl vs as → ArgR mg G H (false :: fl) (v :: vs) (.im d :: as)
  | io {fl : List Bool} {a : Addr} {vs : List V} {s : Sl} {as : List Sl} : G a → OwR mg G H a s → ArgR mg G H fl vs as → ArgR mg G H (true :: fl) (.ref a :: vs) (s :: as)
def ioB : Nat → List Bool → List V → List (Nat × Addr)
  | i, true :: fl, .ref a :: vs => (i, a) :: ioB (i + 1) fl vs
  | i, _ :: fl, _ :: vs => ioB (i + 1) fl vs
  | _, _, _ => []
abbrev ioA (fl : List Bool) (vs : List V) : List Addr := (ioB 0 fl vs).map (·.2)
def outsOf : List Bool → En → List Sl
  | true :: fl, s :: e => s :: outsOf fl e
  | false :: fl, _ :: e => outsOf fl e
  | _, _ => []
/-- what a call leaves -/
structure CallF (mg : MG) (as : List Addr) (outs : List Sl) (G : AP) (H : Hp) (G' : AP) (H' : Hp) : Prop where
  k : ∀ b o, H b = some o → b ∉ as → H' b = some o
  d : ∀ b, H b ≠ none → H' b ≠ none
  n : ∀ b, G' b → G b ∨ H b = none
  g : ∀ b, G b → G' b
  t : ∀ b, G' b → H' b ≠ none
  lb : LB G' H'
  o : Paired (fun a s => OwR mg G' H' a s) as outs
def RetR (mg : MG) (Hb : Hp) (G : AP) (H : Hp) (v : V) : Sl → Prop
  | .no => False
  | .im d => Dn mg G H v d
  | s => ∃ a, v = .ref a ∧ TmpAt mg Hb G H a s
def spFn (mg : MG) (fl : List Bool) (f : Fn) : Sp := fun vs H Q E => vs.length = fl.length ∧ ∃ (G : AP) (as : List Sl), (∀ b, G b → H b ≠ none) ∧ LB G H ∧ ArgR mg G H fl vs as ∧ (ioA fl vs).Nodup ∧ (match f as with
  | .ok r outs => ∀ G' H' v, CallF mg (ioA fl vs) outs G H G' H' → RetR mg H G' H' v r → Q v H'
  | .exn c outs => ∀ G' H' cls, CallF mg (ioA fl vs) outs G H G' H' → mg.g c = some cls → E cls none H'
  | .stuck => False)
/-- a def's function from its body's -/
def fnOf (fl : List Bool) (n : Nat) (ms : MS) : Fn := fun as => match ms (as ++ List.replicate (n - fl.length) Sl.no) with
  | .rt r e => .ok r (outsOf fl e)
  | .nx e => .ok (.im .none) (outsOf fl e)
  | .exn c e => .exn c (outsOf fl e)
  | _ => .stuck
section
variable {mg : MG} {G G' : AP} {H H' : Hp}
theorem ArgR.len : ∀ {fl : List Bool} {vs : List V} {as : List Sl}, ArgR mg G H fl vs as → vs.length = fl.length ∧ as.length = fl.length
  | _, _, _, .nil => ⟨rfl, rfl⟩
  | _, _, _, .im _ r => by obtain ⟨a, b⟩ := ArgR.len r; simp [a, b]
  | _, _, _, .io _ _ r => by obtain ⟨a, b⟩ := ArgR.len r; simp [a, b]
theorem ioB_mem : ∀ {fl : List Bool} {vs : List V} {i : Nat} {p : Nat × Addr}, p ∈ ioB i fl vs → i ≤ p.1 ∧ vs[p.1 - i]? = some (.ref p.2) ∧ fl[p.1 - i]? = some true
  | [], vs, i, p, h => by cases vs <;> (unfold ioB at h; cases h)
  | b :: fl, [], i, p, h => by cases b <;> (unfold ioB at h; cases h)
  | b :: fl, v :: vs, i, p, h => by
    have tail : p ∈ ioB (i + 1) fl vs → i ≤ p.1 ∧ (v :: vs)[p.1 - i]? = some (.ref p.2) ∧ (b :: fl)[p.1 - i]? = some true := fun h => by
      obtain ⟨h1, h2, h3⟩ := ioB_mem h
      have e : p.1 - i = (p.1 - (i + 1)) + 1 := by omega
      exact ⟨by omega, by rw [e]; simpa using h2, by rw [e]; simpa using h3⟩
    cases b with
    | false => unfold ioB at h; exact tail h
    | true =>
      cases v with
      | ref a =>
        unfold ioB at h
        rcases List.mem_cons.mp h with rfl | h
        · exact ⟨Nat.le_refl _, by simp, by simp⟩
        · exact tail h
      | non => unfold ioB at h; exact tail h
      | bl _ => unfold ioB at h; exact tail h
      | int _ => unfold ioB at h; exact tail h
      | str _ => unfold ioB at h; exact tail h
      | byt _ => unfold ioB at h; exact tail h
      | flt _ => unfold ioB at h; exact tail h
      | ty _ => unfold ioB at h; exact tail h
theorem ArgR.get : ∀ {fl : List Bool} {vs : List V} {as : List Sl} {i : Nat} {s : Sl}, ArgR mg G H fl vs as → as[i]? = some s → ∃ v, vs[i]? = some v ∧ SlR mg G H v s ∧ s ≠ .no ∧ (s.own = true ↔ fl[i]? = some true)
  | _, _, _, i, s, .nil, h => by simp at h
  | _, _, _, 0, s, .im d r, h => by
    simp at h; subst h
    exact ⟨_, rfl, d, (by simp), (by simp [Sl.own])⟩
  | _, _, _, 0, s, .io g o r, h => by
    simp at h; subst h
    exact ⟨_, rfl, .mk_own g o, fun z => (by rw [z] at o; exact o), by simp [o.own]⟩
  | _, _, _, i + 1, s, .im d r, h => by
    obtain ⟨v, h1, h2⟩ := ArgR.get (i := i) r (by simpa using h)
    exact ⟨v, by simpa using h1, by simpa using h2⟩
  | _, _, _, i + 1, s, .io g o r, h => by
    obtain ⟨v, h1, h2⟩ := ArgR.get (i := i) r (by simpa using h)
    exact ⟨v, by simpa using h1, by simpa using h2⟩
theorem ArgR.ioB : ∀ {fl : List Bool} {vs : List V} {as : List Sl} {i k : Nat} {a : Addr}, ArgR mg G H fl vs as → fl[i]? = some true → vs[i]? = some (.ref a) → (k + i, a) ∈ PL.ioB k fl vs
  | _, _, _, _, _, _, .nil, h, _ => by simp at h
  | _, _, _, 0, k, a, .im d r, h, _ => by simp at h
  | _, _, _, 0, k, a, .io g o r, _, h => by
    simp at h; subst h
    unfold PL.ioB
    exact List.mem_cons_self
  | _, _, _, i + 1, k, a, .im d r, h1, h2 => by
    have q := ArgR.ioB (i := i) (k := k + 1) r (by simpa using h1) (by simpa using h2)
    rw [show k + 1 + i = k + (i + 1) by omega] at q
    unfold PL.ioB
    exact q
  | _, _, _, i + 1, k, a, .io g o r, h1, h2 => by
    have q := ArgR.ioB (i := i) (k := k + 1) r (by simpa using h1) (by simpa using h2)
    rw [show k + 1 + i = k + (i + 1) by omega] at q
    unfold PL.ioB
    exact List.mem_cons_of_mem _ q
/-- what stands at the ends of those that were handed in -/
theorem outs_ok : ∀ {fl : List Bool} {vs : List V} {as : List Sl} {env : En} {k : Nat}, ArgR mg G H fl vs as → (∀ p ∈ ioB k fl vs, ∃ s, env[p.1 - k]? = some s ∧ OwR mg G' H' p.2 s) → Paired (fun a s => OwR mg G' H' a s) ((ioB k fl vs).map (·.2)) (outsOf fl env)
  | fl, vs, _, [], k, _, h => by
    have e : ioB k fl vs = [] := by
      cases q : ioB k fl vs with
      | nil => rfl
      | cons p l =>
        obtain ⟨s, e1, _⟩ := h p (by rw [q]; exact List.mem_cons_self)
        simp at e1
    have e2 : outsOf fl [] = [] := by cases fl with
      | nil => rfl
      | cons b fl => cases b <;> rfl
    rw [e, e2]
    exact .nil
  | _, _, _, e :: env, k, .nil, _ => .nil
  | _, _, _, e :: env, k, .im (vs := vs) (fl := fl) d r, h => by
    unfold outsOf
    have q := outs_ok (env := env) (k := k + 1) r (fun p hp => by
      obtain ⟨h1, h2, h3⟩ := ioB_mem hp
      obtain ⟨s, e1, e2⟩ := h p (by unfold ioB; exact hp)
      have e : p.1 - k = (p.1 - (k + 1)) + 1 := by omega
      rw [e] at e1
      exact ⟨s, by simpa using e1, e2⟩)
    unfold ioB
    exact q
  | _, _, _, e :: env, k, .io (a := a) (vs := vs) (fl := fl) d o r, h => by
    unfold outsOf
    have q := outs_ok (env := env) (k := k + 1) r (fun p hp => by
      obtain ⟨h1, h2, h3⟩ := ioB_mem hp
      obtain ⟨s, e1, e2⟩ := h p (by unfold ioB; exact List.mem_cons_of_mem _ hp)
      have e : p.1 - k = (p.1 - (k + 1)) + 1 := by omega
      rw [e] at e1
      exact ⟨s, by simpa using e1, e2⟩)
    obtain ⟨s, e1, e2⟩ := h (k, a) (by unfold ioB; exact List.mem_cons_self)
    simp at e1
    subst e1
    unfold ioB
    exact .cons e2 q
/-- a frame at its start -/
theorem start_ok {fl : List Bool} {vs : List V} {as : List Sl} {N : List Str} (t : ∀ b, G b → H b ≠ none) (lb : LB G H) (r : ArgR mg G H fl vs as) (nd : (ioA fl vs).Nodup) (hN : fl.length ≤ N.length) :
    ER ⟨H, G, ioB 0 fl vs, fl.length⟩ mg G H (L2.start N vs) (as ++ List.replicate (N.length - fl.length) Sl.no) := by
  obtain ⟨l1, l2⟩ := r.len
  have inA : ∀ {i : Nat} {s : Sl}, (as ++ List.replicate (N.length - fl.length) Sl.no)[i]? = some s → s ≠ .no → as[i]? = some s := fun {i s} h n => by
    by_cases hi : i < as.length
    · rw [List.getElem?_append_left hi] at h; exact h
    · rw [List.getElem?_append_right (by omega), List.getElem?_replicate] at h
      split at h
      · cases h; exact absurd rfl n
      · cases h
  have inV : ∀ {i : Nat} {v : V}, vs[i]? = some v → (L2.start N vs)[i]? = some (some v) := fun {i v} h => by
    obtain ⟨hi, e⟩ := List.getElem?_eq_some_iff.mp h
    unfold L2.start
    rw [List.getElem?_append_left (by simpa using hi), List.getElem?_map, h]
    rfl
  have noneof : ∀ {s : Sl}, s.own = true → s ≠ .no := fun {s} o z => by rw [z] at o; cases o
  have uniq : ∀ {l : List (Nat × Addr)} {p q : Nat × Addr}, (l.map (·.2)).Nodup → p ∈ l → q ∈ l → p.2 = q.2 → p = q := by
    intro l
    induction l with
    | nil => intro p q _ h; cases h
    | cons x l ih =>
      intro p q hn hp hq e
      have hn' := List.nodup_cons.mp (show (x.2 :: l.map (·.2)).Nodup from hn)
      rcases List.mem_cons.mp hp with hp1 | hp1
      · rcases List.mem_cons.mp hq with hq1 | hq1
        · rw [hp1, hq1]
        · rw [hp1] at e
          exact absurd (List.mem_map.mpr ⟨q, hq1, e.symm⟩) hn'.1
      · rcases List.mem_cons.mp hq with hq1 | hq1
        · rw [hq1] at e
          exact absurd (List.mem_map.mpr ⟨p, hp1, e⟩) hn'.1
        · exact ih hn'.2 hp1 hq1 e
  have io_of : ∀ {i : Nat} {s : Sl} {a : Addr}, as[i]? = some s → s.own = true → (L2.start N vs)[i]? = some (some (V.ref a)) → (i, a) ∈ ioB 0 fl vs := fun {i s a} h o q => by
    obtain ⟨v, h1, _, _, h4⟩ := r.get h
    rw [inV h1] at q
    cases q
    have z := ArgR.ioB (k := 0) r (h4.mp o) h1
    rw [Nat.zero_add] at z
    exact z
  refine ⟨?_, fun i s h n => ?_, fun i j s s' a h1 o1 h2 o2 q1 q2 => ?_, fun p hp => ?_, fun b o h _ => h, fun _ h => h, fun _ h => .inl h, fun _ h => h, fun i s a h o q => ?_, t, t, lb⟩
  · unfold L2.start
    simp only [List.length_append, List.length_map, List.length_replicate, l1, l2]
  · obtain ⟨v, h1, h2, _⟩ := r.get (inA h n)
    exact ⟨v, inV h1, h2⟩
  · have z1 := io_of (inA h1 (noneof o1)) o1 q1
    have z2 := io_of (inA h2 (noneof o2)) o2 q2
    have e := uniq nd z1 z2 rfl
    cases e
    rfl
  · obtain ⟨_, h2, h3⟩ := ioB_mem hp
    rw [Nat.sub_zero] at h2 h3
    have hi : p.1 < fl.length := (List.getElem?_eq_some_iff.mp h3).1
    refine ⟨hi, inV h2, as[p.1], ?_, ?_⟩
    · rw [List.getElem?_append_left (by omega)]
      exact List.getElem?_eq_getElem (by omega)
    · obtain ⟨_, _, _, _, z⟩ := r.get (List.getElem?_eq_getElem (show p.1 < as.length by omega))
      exact z.mpr h3
  · exact .inl ⟨(i, a), io_of (inA h (noneof o)) o q, rfl⟩
end
section
variable {P : Program} {w : World} {K : PySem.W.Frag} {mg : Str → Option Value} {base : Heap}
/-- where a def's body stands: the frame's ground -/
abbrev bsOf (H : Hp) (G : AP) (fl : List Bool) (vs : List V) : Bs := ⟨H, G, ioB 0 fl vs, fl.length⟩
theorem end_ok {fl : List Bool} {vs : List V} {as : List Sl} {G G' : AP} {H H' : Hp} {σ' : St} {e : En} {m : MG} (r : ArgR m G H fl vs as) (E' : ER (bsOf H G fl vs) m G' H' σ' e) : CallF m (ioA fl vs) (outsOf fl e) G H G' H' := by
  refine ⟨fun b o h nb => E'.f1 b o h fun p hp z => nb (List.mem_map.mpr ⟨p, hp, z⟩), E'.f2, E'.f3, E'.f4, E'.gt, E'.lb, ?_⟩
  refine outs_ok r fun p hp => ?_
  obtain ⟨_, q2, s, q3, q4⟩ := E'.io p hp
  obtain ⟨v, hv, sr⟩ := E'.sl _ s q3 (by rintro rfl; cases q4)
  rw [hv] at q2
  cases q2
  obtain ⟨a, ea, g, o⟩ := sr.of_own q4
  cases ea
  exact ⟨s, by rw [Nat.sub_zero]; exact q3, o⟩
/-- THE RULE for a def -/
theorem fn_ok {x qual : Str} {st : Stmt} {f : Addr} {fd : FuncData} {N ps : List Str} {k : Nat} {fl : List Bool} {ms : MS} (F : Fun K x qual st f fd) (S : FnScope N ps (defScope st)) (hfl : fl.length = ps.length)
    (body : ∀ (cdv : Value) (A : Around) (outer : List Env) (s : Shared) (H : Hp) (E : XK) (B : Bs), Room k (A.deeper (envOfC qual (defScope st) s.heap.objs.size f cdv)) → B.np = fl.length →
      XSs (cxOf (L2.CX P w) P w K mg base N qual (defScope st) f cdv A outer s H E) (fun cls d _ H => E cls d H) B (defBody st) ms) :
    FnOk P w K mg base (L2.CX P w) (k + 1) f fd ps (spFn ⟨K, mg⟩ fl (fnOf fl N.length ms)) := by
  have hpl : ps.length ≤ N.length := by
    have := congrArg List.length S.pre
    rw [List.length_take] at this
    omega
  refine F.okX S (fun vs H Q E h => by rw [h.1, hfl]) fun cdv A outer s H vs Q E hr hsp => ?_
  obtain ⟨hl, G, as, t, lb, ra, nd, post⟩ := hsp
  obtain ⟨⟨tt, pt, it⟩⟩ := body cdv A outer s H E (bsOf H G fl vs) hr rfl
  refine ⟨tt, pt, ?_⟩
  have E0 : ER (bsOf H G fl vs) ⟨K, mg⟩ G H (L2.start N vs) (as ++ List.replicate (N.length - fl.length) Sl.no) := start_ok (N := N) t lb ra nd (by omega)
  refine it G H _ (as ++ List.replicate (N.length - fl.length) Sl.no) _ E0 ?_
  unfold fnOf at post
  generalize hms : ms (as ++ List.replicate (N.length - fl.length) Sl.no) = r at post
  cases r with
  | nx e => exact fun G' H' σ' E' fz => post G' H' .non (end_ok ra E') .non
  | bk e => exact post.elim
  | ct e => exact post.elim
  | stuck => exact post.elim
  | exn c e => exact fun G' H' σ' cls E' fz hm => post G' H' cls (end_ok ra E') hm
  | rt s e =>
    refine fun G' H' σ' v E' fz rt => post G' H' v (end_ok ra E') ?_
    cases s with
    | no => exact rt
    | im d => exact rt
    | ol ds => obtain ⟨a, e, t, _⟩ := rt; exact ⟨a, e, t⟩
    | odk ds => obtain ⟨a, e, t, _⟩ := rt; exact ⟨a, e, t⟩
    | odt ds => obtain ⟨a, e, t, _⟩ := rt; exact ⟨a, e, t⟩
end
end PL

set_option maxRecDepth 100000
namespace PL
open PySem PySem.Spec PyProof.Rows L2

/-! ### calls -/
def shareArgs (np : Nat) : List Bool → List Rf → M (List Sl)
  | false :: fl, x :: xs => M.bind (toI np x) fun d => M.bind (shareArgs np fl xs) fun ss env => .ok (.im d :: ss) env
  | true :: fl, _ :: xs => M.bind (shareArgs np fl xs) fun ss env => .ok (.no :: ss) env
  | [], [] => fun env => .ok [] env
  | _, _ => fun _ => .stuck
def ownOf (env : En) : Rf → Option Sl
  | .tmp s => some s
  | .var j => (match env[j]? with
    | some s => if s.own = true then some s else none
    | none => none)
  | .im _ => none
def fillArgs (env : En) : List Bool → List Rf → List Sl → Option (List Sl)
  | false :: fl, _ :: xs, s :: ss => (match fillArgs env fl xs ss with
    | some r => some (s :: r)
    | none => none)
  | true :: fl, x :: xs, _ :: ss => (match ownOf env x, fillArgs env fl xs ss with
    | some s, some r => some (s :: r)
    | _, _ => none)
  | [], [], [] => some []
  | _, _, _ => none
def ioVars : List Bool → List Rf → List Nat
  | true :: fl, .var j :: xs => j :: ioVars fl xs
  | _ :: fl, _ :: xs => ioVars fl xs
  | _, _ => []
def writeBack : List Bool → List Rf → List Sl → En → En
  | true :: fl, .var j :: xs, o :: outs, env => writeBack fl xs outs (env.set j o)
  | true :: fl, _ :: xs, _ :: outs, env => writeBack fl xs outs env
  | false :: fl, _ :: xs, outs, env => writeBack fl xs outs env
  | _, _, _, env => env
def retRf : Sl → Option Rf
  | .no => none
  | .im d => some (.im d)
  | s => some (.tmp s)
def callS (np : Nat) (fl : List Bool) (f : Fn) (xs : List Rf) : M Rf := fun env => (shareArgs np fl xs env).bind fun ss env1 => if (ioVars fl xs).Nodup then (match fillArgs env1 fl xs ss with
  | some as => (match f as with
    | .ok r outs => (match retRf r with
      | some z => .ok z (writeBack fl xs outs env1)
      | none => .stuck)
    | .exn c outs => .exn c (writeBack fl xs outs env1)
    | .stuck => .stuck)
  | none => .stuck) else .stuck
def mCall (np : Nat) (fl : List Bool) (f : Fn) (ms : M (List Rf)) : M Rf := ms.bind fun xs => callS np fl f xs
theorem shareArgs_nox {np : Nat} : ∀ {fl : List Bool} {xs : List Rf} {env : En} c e, shareArgs np fl xs env ≠ .exn c e
  | [], [], _, c, e, h => by cases h
  | [], _ :: _, _, c, e, h => by cases h
  | true :: _, [], _, c, e, h => by cases h
  | false :: _, [], _, c, e, h => by cases h
  | true :: fl, x :: xs, env, c, e, h => by
    have h : (shareArgs np fl xs env).bind (fun ss env => .ok (.no :: ss) env) = .exn c e := h
    cases q : shareArgs np fl xs env with
    | exn c' e' => exact shareArgs_nox c' e' q
    | stuck => rw [q] at h; cases h
    | ok d e1 => rw [q] at h; cases h
  | false :: fl, x :: xs, env, c, e, h => by
    have h : (toI np x env).bind (fun d => M.bind (shareArgs np fl xs) fun ss env => .ok (.im d :: ss) env) = .exn c e := h
    cases q : toI np x env with
    | exn c' e' => exact toI_nox c' e' q
    | stuck => rw [q] at h; cases h
    | ok d e1 =>
      rw [q] at h
      have h : (shareArgs np fl xs e1).bind (fun ss env => .ok (.im d :: ss) env) = .exn c e := h
      cases q2 : shareArgs np fl xs e1 with
      | exn c' e' => exact shareArgs_nox c' e' q2
      | stuck => rw [q2] at h; cases h
      | ok d e1 => rw [q2] at h; cases h
section
variable {B : Bs} {mg : MG} {G G' G1 G2 Gb : AP} {H H' H1 H2 Hb : Hp} {σ : St} {env env' env1 env2 envb : En}
/-- values, shared or to be changed -/
inductive HalfR (mg : MG) (Hb : Hp) (G : AP) (H : Hp) (σ : St) (env : En) : List Bool → List V → List Rf → List Sl → Prop
  | nil : HalfR mg Hb G H σ env [] [] [] []
  | im {fl : List Bool} {v : V} {vs : List V} {x : Rf} {xs : List Rf} {d : D} {ss : List Sl} : Dn mg G H v d → HalfR mg Hb G H σ env fl vs xs ss → HalfR mg Hb G H σ env (false :: fl) (v :: vs) (x :: xs) (.im d :: ss)
  | io {fl : List Bool} {v : V} {vs : List V} {x : Rf} {xs : List Rf} {ss : List Sl} : RfR mg Hb G H σ env v x → (∀ s, x = .tmp s → ∀ (i : Nat) s', xs[i]? = some (.tmp s') → vs[i]? ≠ some v) → HalfR mg Hb G H σ env fl vs xs ss → HalfR mg Hb G H σ env (true :: fl) (v :: vs) (x :: xs) (.no :: ss)
theorem share_ok {np : Nat} (tb : ∀ b, Gb b → Hb b ≠ none) (h0 : ∀ b, B.H0 b ≠ none → Hb b ≠ none) (hnp : B.np ≤ np) : ∀ {fl : List Bool} {xs : List Rf} {vs : List V} {ss : List Sl} {G : AP} {env env' : En}, ER B mg G H σ env → Ext Gb Hb G H σ envb env → RfA mg Hb G H σ env vs xs →
    shareArgs np fl xs env = .ok ss env' → ∃ G', ER B mg G' H σ env' ∧ HalfR mg Hb G' H σ env' fl vs xs ss ∧ Ext Gb Hb G' H σ envb env' ∧ Fz G H G' H ∧ (∀ b, Ow σ env' b → Ow σ env b) ∧
      ∀ v x, RfR mg Hb G H σ env v x → (∀ s, x = .tmp s → ∀ (i : Nat) s', xs[i]? = some (.tmp s') → vs[i]? ≠ some v) → RfR mg Hb G' H σ env' v x
  | [], [], _, _, G, env, env', E, x0, r, h => by
    cases r
    cases h
    exact ⟨G, E, .nil, x0, Fz.refl, fun _ z => z, fun _ _ q _ => q⟩
  | [], _ :: _, _, _, _, _, _, _, _, _, h => by cases h
  | true :: _, [], _, _, _, _, _, _, _, _, h => by cases h
  | false :: _, [], _, _, _, _, _, _, _, _, h => by cases h
  | true :: fl, x :: xs, _, _, G, env, env', E, x0, r, h => by
    cases r with
    | cons r1 n r2 =>
      obtain ⟨ss, env2, h2, h⟩ := bind_ok_inv (show (shareArgs np fl xs env).bind (fun ss env => Res.ok (Sl.no :: ss) env) = _ from h)
      cases h
      obtain ⟨G2, E2, hr, x2, fz, ow, tr⟩ := share_ok tb h0 hnp E x0 r2 h2
      exact ⟨G2, E2, .io (tr _ _ r1 n) n hr, x2, fz, ow, fun v x q m => tr v x q fun s hx i s' hi hv => m s hx (i + 1) s' (by simpa using hi) (by simpa using hv)⟩
  | false :: fl, x :: xs, _, _, G, env, env', E, x0, r, h => by
    cases r with
    | cons r1 n r2 =>
      rename_i v vs
      obtain ⟨d, env1, h1, h⟩ := bind_ok_inv (show (toI np x env).bind (fun d => M.bind (shareArgs np fl xs) fun ss env => Res.ok (Sl.im d :: ss) env) = _ from h)
      obtain ⟨ss, env2, h2, h⟩ := bind_ok_inv (show (shareArgs np fl xs env1).bind (fun ss env => Res.ok (Sl.im d :: ss) env) = _ from h)
      cases h
      obtain ⟨G1, E1, d1, x1, th, ow⟩ := toI_ok tb h0 E x0 r1 hnp h1
      have mv : ∀ w y, RfR mg Hb G H σ env w y → (∀ s s', x = .tmp s → y = .tmp s' → w ≠ v) → RfR mg Hb G1 H σ env1 w y := by
        intro w y q hq
        cases y with
        | im d' => exact Dn.keep th.fz q
        | var j => exact q
        | tmp s' =>
          obtain ⟨a', rfl, t', no⟩ := q
          refine ⟨a', rfl, ⟨?_, t'.new, t'.r.keep th.fz fun _ z => z⟩, fun z => no (ow a' z)⟩
          by_cases g : G1 a'
          · exact g
          · rcases th.at_ a' t'.g g with z | ⟨z, s, z'⟩
            · exact absurd z no
            · exact absurd z.symm (hq s s' z' rfl)
      have r2' : RfA mg Hb G1 H σ env1 vs xs := by
        have go : ∀ (vs : List V) (xs : List Rf), (∀ s, x = .tmp s → ∀ (i : Nat) s', xs[i]? = some (.tmp s') → vs[i]? ≠ some v) → RfA mg Hb G H σ env vs xs → RfA mg Hb G1 H σ env1 vs xs := by
          intro vs xs n r
          induction r with
          | nil => exact .nil
          | @cons w ws y ys q m rr ih =>
            exact .cons (mv w y q fun s s' hx hy hw => n s hx 0 s' (by rw [hy]; rfl) (by rw [hw]; rfl)) m (ih fun s hx i s' hi hv => n s hx (i + 1) s' (by simpa using hi) (by simpa using hv))
        exact go vs xs n r2
      obtain ⟨G2, E2, hr, x2, fz, ow2, tr⟩ := share_ok tb h0 hnp E1 x1 r2' h2
      refine ⟨G2, E2, .im (d1.keep fz) hr, x2, th.fz.trans fz, fun b z => ow b (ow2 b z), fun w y q m => tr w y (mv w y q fun s s' hx hy hw => ?_) fun s hx i s' hi hv => m s hx (i + 1) s' (by simpa using hi) (by simpa using hv)⟩
      exact m s' hy 0 s (by rw [hx]; rfl) (by rw [hw]; rfl)
/-- an address that is handed in: a temporary's, or a name's own -/
def AtR (Hb : Hp) (σ : St) (env : En) (a : Addr) (x : Rf) : Prop := (∃ s, x = .tmp s ∧ Hb a = none ∧ ¬ Ow σ env a) ∨ ∃ j s, x = .var j ∧ env[j]? = some s ∧ s.own = true ∧ σ[j]? = some (some (.ref a))
theorem fill_ok (E : ER B mg G H σ env) : ∀ {fl : List Bool} {vs : List V} {xs : List Rf} {ss as : List Sl} {k : Nat}, HalfR mg Hb G H σ env fl vs xs ss → (ioVars fl xs).Nodup → fillArgs env fl xs ss = some as →
    ArgR mg G H fl vs as ∧ ((ioB k fl vs).map (·.2)).Nodup ∧ ∀ p ∈ ioB k fl vs, ∃ x, xs[p.1 - k]? = some x ∧ AtR Hb σ env p.2 x ∧ (∀ j, x = .var j → j ∈ ioVars fl xs)
  | _, _, _, _, as, k, .nil, _, h => by
    cases h
    exact ⟨.nil, List.nodup_nil, fun p hp => by cases hp⟩
  | _, _, _, _, as, k, .im (fl := fl) (vs := vs) (xs := xs) (ss := ss) (v := v) (x := x) d r, hn, h => by
    unfold fillArgs at h
    split at h
    · rename_i rr hr
      cases h
      obtain ⟨h1, h2, h3⟩ := fill_ok (k := k + 1) E r (by unfold ioVars at hn; exact hn) hr
      refine ⟨.im d h1, by unfold ioB; exact h2, fun p hp => ?_⟩
      unfold ioB at hp
      obtain ⟨q1, _, _⟩ := ioB_mem hp
      obtain ⟨x', e1, e2, e3⟩ := h3 p hp
      exact ⟨x', by rw [show p.1 - k = (p.1 - (k + 1)) + 1 by omega]; simpa using e1, e2, fun j hj => by unfold ioVars; exact e3 j hj⟩
    · cases h
  | _, _, _, _, as, k, .io (fl := fl) (vs := vs) (xs := xs) (ss := ss) (v := v) (x := x) q n r, hn, h => by
    unfold fillArgs at h
    split at h
    · rename_i s rr hs hr
      cases h
      have hn2 : (ioVars fl xs).Nodup := by
        cases x with
        | var j => unfold ioVars at hn; exact (List.nodup_cons.mp hn).2
        | im d => unfold ioVars at hn; exact hn
        | tmp s => unfold ioVars at hn; exact hn
      obtain ⟨h1, h2, h3⟩ := fill_ok (k := k + 1) E r hn2 hr
      -- the value is an object's
      have at_ : ∃ a, v = .ref a ∧ G a ∧ OwR mg G H a s ∧ AtR Hb σ env a x := by
        cases x with
        | im d => cases hs
        | tmp s' =>
          cases hs
          obtain ⟨a, rfl, t, no⟩ := q
          exact ⟨a, rfl, t.g, t.r, .inl ⟨_, rfl, t.new, no⟩⟩
        | var j =>
          have q : σ[j]? = some (some v) := q
          have hs : (match env[j]? with
            | some s => if s.own = true then some s else none
            | none => none) = some s := hs
          split at hs
          · rename_i s' he
            split at hs
            · rename_i ho
              cases hs
              obtain ⟨v', hv, sr⟩ := E.sl j _ he (by rintro rfl; cases ho)
              rw [hv] at q
              cases q
              obtain ⟨a, rfl, g, o⟩ := sr.of_own ho
              exact ⟨a, rfl, g, o, .inr ⟨j, _, rfl, he, ho, hv⟩⟩
            · cases hs
          · cases hs
      obtain ⟨a, rfl, g, o, hat⟩ := at_
      refine ⟨.io g o h1, ?_, fun p hp => ?_⟩
      · unfold ioB
        refine List.nodup_cons.mpr ⟨fun hm => ?_, h2⟩
        obtain ⟨p, hp, e⟩ := List.mem_map.mp hm
        obtain ⟨x', e1, e2, e3⟩ := h3 p hp
        obtain ⟨_, q2, _⟩ := ioB_mem hp
        rw [e] at e2 q2
        rcases hat with ⟨s1, hx, _, no⟩ | ⟨j, s1, hx, he, ho, hv⟩
        · rcases e2 with ⟨s2, hx2, _, _⟩ | ⟨j2, s2, _, he2, ho2, hv2⟩
          · rw [hx2] at e1
            exact n s1 hx _ s2 e1 q2
          · exact no ⟨j2, s2, he2, ho2, hv2⟩
        · rcases e2 with ⟨s2, _, _, no2⟩ | ⟨j2, s2, hx2, he2, ho2, hv2⟩
          · exact no2 ⟨j, s1, he, ho, hv⟩
          · have ej : j = j2 := E.ds j j2 s1 s2 a he ho he2 ho2 hv hv2
            subst hx ej
            unfold ioVars at hn
            exact (List.nodup_cons.mp hn).1 (e3 j hx2)
      · unfold ioB at hp
        rcases List.mem_cons.mp hp with rfl | hp
        · refine ⟨x, by simp, hat, fun j hj => ?_⟩
          subst hj
          unfold ioVars
          exact List.mem_cons_self
        · obtain ⟨q1, _, _⟩ := ioB_mem hp
          obtain ⟨x', e1, e2, e3⟩ := h3 p hp
          refine ⟨x', by rw [show p.1 - k = (p.1 - (k + 1)) + 1 by omega]; simpa using e1, e2, fun j hj => ?_⟩
          cases x with
          | var i => unfold ioVars; exact List.mem_cons_of_mem _ (e3 j hj)
          | im d => unfold ioVars; exact e3 j hj
          | tmp s => unfold ioVars; exact e3 j hj
    · cases h
end
end PL

set_option maxRecDepth 100000
namespace PL
open PySem PySem.Spec PyProof.Rows L2
section
variable {B : Bs} {mg : MG} {G G' G1 G2 Gb : AP} {H H' H1 H2 Hb : Hp} {σ : St} {env env' env1 env2 envb : En}
theorem wb_ok {Gx : AP} {Hx : Hp} : ∀ {fl : List Bool} {vs : List V} {xs : List Rf} {ss outs : List Sl} {env e0 : En} {k n : Nat}, HalfR mg Hb G H σ e0 fl vs xs ss → Paired (fun a s => OwR mg Gx Hx a s) ((ioB k fl vs).map (·.2)) outs → (∀ v ∈ vs, True) →
    (∀ p ∈ ioB k fl vs, ∀ j, xs[p.1 - k]? = some (.var j) → σ[j]? = some (some (.ref p.2)) ∧ j < n) → (∀ (i : Nat) v x, fl[i]? = some true → vs[i]? = some v → xs[i]? = some x → ∃ a, v = .ref a) → env.length = n →
    (writeBack fl xs outs env).length = n ∧ ∀ (i : Nat) s, (writeBack fl xs outs env)[i]? = some s → (env[i]? = some s ∧ (i ∉ ioVars fl xs ∨ ∃ a, σ[i]? = some (some (.ref a)) ∧ a ∈ (ioB k fl vs).map (·.2) ∧ OwR mg Gx Hx a s)) ∨ (i ∈ ioVars fl xs ∧ ∃ a, σ[i]? = some (some (.ref a)) ∧ a ∈ (ioB k fl vs).map (·.2) ∧ OwR mg Gx Hx a s)
  | _, _, _, _, outs, env, _, k, n, .nil, _, _, _, _, hl => by
    unfold writeBack
    exact ⟨hl, fun i s h => .inl ⟨h, .inl (by unfold ioVars; simp)⟩⟩
  | _, _, _, _, outs, env, _, k, n, .im (fl := fl) (vs := vs) (xs := xs) (v := v) (x := x) d r, pr, _, hv, ha, hl => by
    obtain ⟨h1, h2⟩ := wb_ok (k := k + 1) (env := env) (outs := outs) r (by unfold ioB at pr; exact pr) (fun _ _ => trivial) (fun p hp j hj => by
      obtain ⟨q1, _, _⟩ := ioB_mem hp
      exact hv p (by unfold ioB; exact hp) j (by rw [show p.1 - k = (p.1 - (k + 1)) + 1 by omega]; simpa using hj)) (fun i v x e1 e2 e3 => ha (i + 1) v x (by simpa using e1) (by simpa using e2) (by simpa using e3)) hl
    unfold writeBack ioVars ioB
    exact ⟨h1, h2⟩
  | _, _, _, _, outs, env, _, k, n, .io (fl := fl) (vs := vs) (xs := xs) (v := v) (x := x) q m r, pr, _, hv, ha, hl => by
    obtain ⟨a, rfl⟩ := ha 0 v x rfl rfl rfl
    unfold ioB at pr
    cases outs with
    | nil => cases pr
    | cons o outs =>
      cases pr with
      | cons p1 p2 =>
        have hv' : ∀ p ∈ ioB (k + 1) fl vs, ∀ j, xs[p.1 - (k + 1)]? = some (.var j) → σ[j]? = some (some (.ref p.2)) ∧ j < n := fun p hp j hj => by
          obtain ⟨q1, _, _⟩ := ioB_mem hp
          exact hv p (by unfold ioB; exact List.mem_cons_of_mem _ hp) j (by rw [show p.1 - k = (p.1 - (k + 1)) + 1 by omega]; simpa using hj)
        have ha' : ∀ (i : Nat) v x, fl[i]? = some true → vs[i]? = some v → xs[i]? = some x → ∃ a, v = .ref a := fun i v x e1 e2 e3 => ha (i + 1) v x (by simpa using e1) (by simpa using e2) (by simpa using e3)
        have up : ∀ {b : Addr}, b ∈ (ioB (k + 1) fl vs).map (·.2) → b ∈ (ioB k (true :: fl) (.ref a :: vs)).map (·.2) := fun {b} hb => by unfold ioB; exact List.mem_cons_of_mem _ hb
        have here : a ∈ (ioB k (true :: fl) (.ref a :: vs)).map (·.2) := by unfold ioB; exact List.mem_cons_self
        cases x with
        | var j =>
          obtain ⟨sj, jn⟩ := hv (k, a) (by unfold ioB; exact List.mem_cons_self) j (by simp)
          obtain ⟨h1, h2⟩ := wb_ok (k := k + 1) (env := env.set j o) (outs := outs) r p2 (fun _ _ => trivial) hv' ha' (by rw [List.length_set]; exact hl)
          unfold writeBack
          refine ⟨h1, fun i s h => ?_⟩
          rcases h2 i s h with ⟨e1, e2⟩ | ⟨e1, b, e2, e3, e4⟩
          · rcases getElem?_set_cases e1 with ⟨z, y⟩ | ⟨z, y⟩
            · subst z y
              refine .inr ⟨by unfold ioVars; exact List.mem_cons_self, a, sj, here, p1⟩
            · rcases e2 with e2 | ⟨b, e2, e3, e4⟩
              · exact .inl ⟨y, .inl (by unfold ioVars; simp only [List.mem_cons, not_or]; exact ⟨z, e2⟩)⟩
              · exact .inl ⟨y, .inr ⟨b, e2, up e3, e4⟩⟩
          · exact .inr ⟨by unfold ioVars; exact List.mem_cons_of_mem _ e1, b, e2, up e3, e4⟩
        | im d =>
          obtain ⟨h1, h2⟩ := wb_ok (k := k + 1) (env := env) (outs := outs) r p2 (fun _ _ => trivial) hv' ha' hl
          unfold writeBack ioVars
          refine ⟨h1, fun i s h => ?_⟩
          rcases h2 i s h with ⟨e1, e2 | ⟨b, e2, e3, e4⟩⟩ | ⟨e1, b, e2, e3, e4⟩
          · exact .inl ⟨e1, .inl e2⟩
          · exact .inl ⟨e1, .inr ⟨b, e2, up e3, e4⟩⟩
          · exact .inr ⟨e1, b, e2, up e3, e4⟩
        | tmp s' =>
          obtain ⟨h1, h2⟩ := wb_ok (k := k + 1) (env := env) (outs := outs) r p2 (fun _ _ => trivial) hv' ha' hl
          unfold writeBack ioVars
          refine ⟨h1, fun i s h => ?_⟩
          rcases h2 i s h with ⟨e1, e2 | ⟨b, e2, e3, e4⟩⟩ | ⟨e1, b, e2, e3, e4⟩
          · exact .inl ⟨e1, .inl e2⟩
          · exact .inl ⟨e1, .inr ⟨b, e2, up e3, e4⟩⟩
          · exact .inr ⟨e1, b, e2, up e3, e4⟩
/-- the frame behind a call: as: the addresses handed in -/
theorem ER.call {as : List Addr} {outs : List Sl} (E : ER B mg G1 H1 σ env2) (c : CallF mg as outs G1 H1 G' H') (hl : env'.length = env2.length)
    (h : ∀ (i : Nat) s, env'[i]? = some s → (env2[i]? = some s ∧ (s.own = true → ∀ a, σ[i]? = some (some (.ref a)) → a ∈ as → OwR mg G' H' a s)) ∨ ∃ a t, env2[i]? = some t ∧ t.own = true ∧ σ[i]? = some (some (.ref a)) ∧ OwR mg G' H' a s)
    (hk : ∀ (i : Nat) t, env2[i]? = some t → t.own = true → ∃ s, env'[i]? = some s ∧ s.own = true) (ha : ∀ a ∈ as, Ow σ env2 a ∨ B.H0 a = none) (hg : ∀ a ∈ as, G1 a) : ER B mg G' H' σ env' ∧ (∀ b, Ow σ env' b → Ow σ env2 b) ∧ Fz G1 H1 G' H' := by
  have fz : Fz G1 H1 G' H' := fun b o g hb => ⟨c.k b o hb fun n => g (hg b n), fun z => by
    rcases c.n b z with q | q
    · exact g q
    · rw [hb] at q; cases q⟩
  have own_of : ∀ {i : Nat} {s : Sl}, env'[i]? = some s → s.own = true → ∃ t, env2[i]? = some t ∧ t.own = true := fun {i s} e o => by
    rcases h i s e with ⟨q, _⟩ | ⟨_, t, q1, q2, _⟩
    · exact ⟨s, q, o⟩
    · exact ⟨t, q1, q2⟩
  have owle : ∀ b, Ow σ env' b → Ow σ env2 b := fun b ⟨i, s, e, o, q⟩ => by
    obtain ⟨t, h1, h2⟩ := own_of e o
    exact ⟨i, t, h1, h2, q⟩
  refine ⟨⟨by rw [hl]; exact E.len, fun i s e n => ?_, fun i j s s' a h1 o1 h2 o2 q1 q2 => ?_, fun p hp => ?_, fun b o hb hn => ?_, fun b hb => c.d b (E.f2 b hb), fun b hb => ?_, fun b hb => c.g b (E.f4 b hb), fun i s a e o q => ?_, c.t, E.g0, c.lb⟩, owle, fz⟩
  · rcases h i s e with ⟨e2, hs⟩ | ⟨a, t, e2, o2, hv, ow⟩
    · obtain ⟨v, hv, r⟩ := E.sl i s e2 n
      refine ⟨v, hv, ?_⟩
      have go : s.own = true → SlR mg G' H' v s := fun ho => by
        obtain ⟨a, rfl, g, o⟩ := r.of_own ho
        by_cases hm : a ∈ as
        · exact .mk_own (c.g a g) (hs ho a hv hm)
        · exact .mk_own (c.g a g) (o.keep fz fun u hu => c.k a u hu hm)
      cases s with
      | no => exact absurd rfl n
      | im d => exact Dn.keep fz r
      | ol ds => exact go rfl
      | odk ds => exact go rfl
      | odt ds => exact go rfl
    · exact ⟨_, hv, .mk_own (c.g a (E.ow ⟨i, t, e2, o2, hv⟩)) ow⟩
  · obtain ⟨t1, y1, z1⟩ := own_of h1 o1
    obtain ⟨t2, y2, z2⟩ := own_of h2 o2
    exact E.ds i j t1 t2 a y1 z1 y2 z2 q1 q2
  · obtain ⟨q1, q2, s, q3, q4⟩ := E.io p hp
    exact ⟨q1, q2, hk p.1 s q3 q4⟩
  · refine c.k b o (E.f1 b o hb hn) fun hm => ?_
    rcases ha b hm with ⟨i, s, e, ow, q⟩ | z
    · rcases E.f5 i s b e ow q with ⟨p, hp, z⟩ | z
      · obtain ⟨_, q2, _⟩ := E.io p hp
        rw [z, q] at q2
        have e2 : b = p.2 := by injection q2 with q3; injection q3 with q4; injection q4
        exact hn p hp e2.symm
      · rw [hb] at z; cases z
    · rw [hb] at z; cases z
  · rcases c.n b hb with z | z
    · exact E.f3 b z
    · exact .inr (E.dom0 z)
  · obtain ⟨t1, y1, z1⟩ := own_of e o
    exact E.f5 i t1 a y1 z1 q
theorem Paired.len {α β : Type} {F : α → β → Prop} : ∀ {l : List α} {r : List β}, Paired F l r → l.length = r.length
  | _, _, .nil => rfl
  | _, _, .cons _ b => by rw [List.length_cons, List.length_cons, Paired.len b]
/-- the state behind a call -/
theorem call_end {fl : List Bool} {vs : List V} {xs : List Rf} {ss outs : List Sl} (E : ER B mg G2 H1 σ env2) (x2 : Ext Gb Hb G2 H1 σ envb env2) (hr : HalfR mg Hb G2 H1 σ env2 fl vs xs ss) (hn : (ioVars fl xs).Nodup) {as : List Sl} (hf : fillArgs env2 fl xs ss = some as)
    (h0 : ∀ b, B.H0 b ≠ none → Hb b ≠ none) (c : CallF mg (ioA fl vs) outs G2 H1 G' H') : ER B mg G' H' σ (writeBack fl xs outs env2) ∧ Ext Gb Hb G' H' σ envb (writeBack fl xs outs env2) ∧ (∀ b, Ow σ (writeBack fl xs outs env2) b → Ow σ env2 b) := by
  obtain ⟨ra, nd, at_⟩ := fill_ok (k := 0) E hr hn hf
  have hv : ∀ p ∈ ioB 0 fl vs, ∀ j, xs[p.1 - 0]? = some (.var j) → σ[j]? = some (some (.ref p.2)) ∧ j < env2.length := fun p hp j hj => by
    obtain ⟨x, e1, e2, _⟩ := at_ p hp
    rw [e1] at hj
    cases hj
    rcases e2 with ⟨s, z, _⟩ | ⟨j', s, z, he, _, hs⟩
    · cases z
    · cases z
      exact ⟨hs, (List.getElem?_eq_some_iff.mp he).1⟩
  have ar : ∀ (i : Nat) v x, fl[i]? = some true → vs[i]? = some v → xs[i]? = some x → ∃ a, v = .ref a := fun i v x e1 e2 _ => by
    have l1 := ra.len
    have hi : i < as.length := by rw [l1.2]; exact (List.getElem?_eq_some_iff.mp e1).1
    obtain ⟨v', h1, h2, _, h4⟩ := ra.get (List.getElem?_eq_getElem hi)
    rw [e2] at h1
    cases h1
    obtain ⟨a, ea, _⟩ := h2.of_own (h4.mpr e1)
    exact ⟨a, ea⟩
  obtain ⟨w1, w2⟩ := wb_ok (k := 0) (env := env2) hr c.o (fun _ _ => trivial) hv ar rfl
  -- a slot that is written is a name's own
  have varOwn : ∀ j, j ∈ ioVars fl xs → ∃ t, env2[j]? = some t ∧ t.own = true := by
    have go : ∀ {fl : List Bool} {vs : List V} {xs : List Rf} {ss as : List Sl}, HalfR mg Hb G2 H1 σ env2 fl vs xs ss → fillArgs env2 fl xs ss = some as → ∀ j, j ∈ ioVars fl xs → ∃ t, env2[j]? = some t ∧ t.own = true := by
      intro fl vs xs ss as r
      induction r generalizing as with
      | nil => intro _ j hj; unfold ioVars at hj; cases hj
      | im d r ih =>
        intro h j hj
        unfold fillArgs at h
        split at h
        · rename_i rr hrr
          unfold ioVars at hj
          exact ih hrr j hj
        · cases h
      | @io fl vv vs x xs ss q m r ih =>
        intro h j hj
        unfold fillArgs at h
        split at h
        · rename_i s rr hs hrr
          cases x with
          | im d => cases hs
          | tmp s => unfold ioVars at hj; exact ih hrr j hj
          | var i =>
            unfold ioVars at hj
            rcases List.mem_cons.mp hj with rfl | hj
            · have hs : (match env2[j]? with
                | some s => if s.own = true then some s else none
                | none => none) = some s := hs
              split at hs
              · rename_i t ht
                split at hs
                · rename_i ho
                  exact ⟨t, ht, ho⟩
                · cases hs
              · cases hs
            · exact ih hrr j hj
        · cases h
    exact go hr hf
  have gA : ∀ a ∈ ioA fl vs, G2 a := fun a hm => by
    obtain ⟨p, hp, e⟩ := List.mem_map.mp hm
    obtain ⟨_, q2, q3⟩ := ioB_mem hp
    rw [Nat.sub_zero] at q2 q3
    have hi : p.1 < as.length := by rw [ra.len.2]; exact (List.getElem?_eq_some_iff.mp q3).1
    obtain ⟨v, h1, h2, _, h4⟩ := ra.get (List.getElem?_eq_getElem hi)
    rw [q2] at h1
    cases h1
    obtain ⟨a', ea, g, _⟩ := h2.of_own (h4.mpr q3)
    cases ea
    rw [← e]; exact g
  have aA : ∀ a ∈ ioA fl vs, Ow σ env2 a ∨ Hb a = none := fun a hm => by
    obtain ⟨p, hp, e⟩ := List.mem_map.mp hm
    obtain ⟨x, _, e2, _⟩ := at_ p hp
    rw [e] at e2
    rcases e2 with ⟨_, _, z, _⟩ | ⟨j, s, _, he, ho, hs⟩
    · exact .inr z
    · exact .inl ⟨j, s, he, ho, hs⟩
  obtain ⟨E', ow, fz⟩ := E.call c w1 (fun i s hi => by
    rcases w2 i s hi with ⟨e1, e2⟩ | ⟨e1, a, e2, _, e4⟩
    · refine .inl ⟨e1, fun ho a ha hm => ?_⟩
      rcases e2 with e2 | ⟨a', e2, _, e4⟩
      · -- a name's own that was handed in is written
        obtain ⟨p, hp, e⟩ := List.mem_map.mp hm
        obtain ⟨x, x1, x2', x3⟩ := at_ p hp
        rw [e] at x2'
        rcases x2' with ⟨_, _, _, no⟩ | ⟨j, t, hx, he, hto, hs⟩
        · exact absurd ⟨i, s, e1, ho, ha⟩ no
        · have ej := E.ds i j s t a e1 ho he hto ha hs
          rw [ej] at e2
          exact absurd (x3 j hx) e2
      · rw [ha] at e2
        cases e2
        exact e4
    · obtain ⟨t, t1, t2⟩ := varOwn i e1
      exact .inr ⟨a, t, t1, t2, e2, e4⟩) (fun i t ht hto => by
    have hi : i < (writeBack fl xs outs env2).length := by rw [w1]; exact (List.getElem?_eq_some_iff.mp ht).1
    refine ⟨_, List.getElem?_eq_getElem hi, ?_⟩
    rcases w2 i _ (List.getElem?_eq_getElem hi) with ⟨e1, _⟩ | ⟨_, a, _, _, e4⟩
    · rw [ht] at e1
      have e3 := Option.some.inj e1
      rw [← e3]; exact hto
    · exact e4.own) (fun a hm => (aA a hm).imp id fun z => none_of_back h0 z) gA
  refine ⟨E', ⟨fun b o hb hn => ?_, fun b hb => c.d b (x2.e2 b hb), fun b hb => ?_, fun b hb hn => c.g b (x2.e4 b hb hn), fun b hb => x2.e5 b (ow b hb)⟩, ow⟩
  · refine c.k b o (x2.e1 b o hb hn) fun hm => ?_
    rcases aA b hm with z | z
    · exact hn (x2.e5 b z)
    · rw [hb] at z; cases z
  · rcases c.n b hb with z | z
    · exact x2.e3 b z
    · exact .inr (back_none x2.e2 z)
end
section
variable {X : Cx} {W : WX} {B : Bs} {e : Expr} {es : List Expr} {ms : M (List Rf)} {p pos : Pos} {np k : Nat} {fl : List Bool} {fn : Fn} {f : Addr} {fd : FuncData} {ps : List Str} {x : Str}
theorem retRf_ok {mg : MG} {G G' : AP} {H H' Hb : Hp} {σ : St} {env env' : En} {v : V} {r : Sl} {z : Rf} (dom : ∀ b, Hb b ≠ none → H b ≠ none) (E : ER B mg G H σ env) (ow : ∀ b, Ow σ env' b → Ow σ env b) (rr : RetR mg H G' H' v r) (h : retRf r = some z) : RfR mg Hb G' H' σ env' v z := by
  have go : ∀ s, z = .tmp s → (∃ a, v = .ref a ∧ TmpAt mg H G' H' a s) → RfR mg Hb G' H' σ env' v z := fun s hz ⟨a, ha, t⟩ => by
    subst hz
    exact ⟨a, ha, ⟨t.g, back_none dom t.new, t.r⟩, fun q => E.ow_there (ow a q) t.new⟩
  cases r with
  | no => cases h
  | im d => cases h; exact rr
  | ol ds => cases h; exact go _ rfl rr
  | odk ds => cases h; exact go _ rfl rr
  | odt ds => cases h; exact go _ rfl rr
theorem imp_call {t : TA} (it : Imp B X.ct W (rA X.ct) t ms) (hnp : B.np ≤ np) : Imp B X.ct W (rV X.ct) (tCallS (spFn X.ct fl fn) (WE W) t) (mCall np fl fn ms) := fun G H σ env Q E p => by
  refine it.run E Ext.refl p fun vs xs env1 G1 H1 _ E1 r1 _ x1 p => ?_
  obtain ⟨ss, env2, h2, p⟩ := Post.inv p shareArgs_nox
  obtain ⟨G2, E2, hr, x2, _, _, _⟩ := share_ok E.gt E.f2 hnp E1 x1 r1 h2
  split at p
  · rename_i hn
    split at p
    · rename_i as hf
      obtain ⟨ra, nd, _⟩ := fill_ok (k := 0) E2 hr hn hf
      refine ⟨ra.len.1, G2, as, E2.gt, E2.lb, ra, nd, ?_⟩
      generalize fn as = fr at p
      cases fr with
      | stuck => exact p.elim
      | ok r outs =>
        intro G' H' v c rr
        have p : Post B X.ct W (rV X.ct) G H σ env (match retRf r with
          | some z => .ok z (writeBack fl xs outs env2)
          | none => .stuck) Q := p
        split at p
        · rename_i z hz
          obtain ⟨E3, x3, ow⟩ := call_end E2 x2 hr hn hf E.f2 c
          exact p G' H' v E3 (retRf_ok x2.e2 E2 ow rr hz) x3
        · exact p.elim
      | exn cc outs =>
        intro G' H' cls c hm
        obtain ⟨E3, x3, ow⟩ := call_end E2 x2 hr hn hf E.f2 c
        exact p G' H' cls E3 x3 hm
    · exact p.elim
  · exact p.elim
theorem xcall (F : FnOk X.prog X.w X.K X.mg X.base (L2.CX X.prog X.w) k f fd ps (spFn X.ct fl fn)) (hr : Room k X.A) (tk : Takes X W) (hg : Gl X x) (hm : X.mg x = some (.ref f)) (hk : PySem.W.keepIn X.K (.ref f) = true) (hb : Binds X.K fd ps []) (hnp : B.np ≤ np)
    (ha : XA X W B (e :: es) ms) (hdb : (x == ("__debug__" : Str)) = false := by decide) (he : starEach (e :: es) X.env = (false, eval e X.env) :: starEach es X.env := by rfl) (hpl : (backTo pos (starEach es X.env)).any (·.1) = false := by rfl) :
    XE X W B (.Call (.Name x p) (e :: es) [] pos) (mCall np fl fn ms) := by
  obtain ⟨⟨t, pt, it⟩⟩ := ha
  exact .by_ (pe_callS F hr hg hm hk hb (fun σ => passAt tk σ) pt hdb he hpl) (imp_call it hnp)
theorem xcall0 (F : FnOk X.prog X.w X.K X.mg X.base (L2.CX X.prog X.w) k f fd ps (spFn X.ct fl fn)) (hr : Room k X.A) (tk : Takes X W) (hg : Gl X x) (hm : X.mg x = some (.ref f)) (hk : PySem.W.keepIn X.K (.ref f) = true) (hb : Binds X.K fd ps []) (hnp : B.np ≤ np)
    (hdb : (x == ("__debug__" : Str)) = false := by decide) : XE X W B (.Call (.Name x p) [] [] pos) (mCall np fl fn mNil) := by
  refine .by_ (t := tCallS (spFn X.ct fl fn) (WE W) tNil) ⟨fun pins s σ H Q I h => ?_⟩ (imp_call (fun G H σ env Q E p => p G H [] E .nil Ext.refl) hnp)
  refine wpAny_Call_Name_kw (ld_glob I hg hm ?_ hdb)
  exact PySem.W.callWith_K0 I.kIn hk (run_fnS (us := []) (E := WE W) F hr hb (passAt tk σ) I .nil h)
end
end PL

set_option maxRecDepth 100000
namespace PL
open PySem PySem.Spec PyProof.Rows L2

/-! ### what the operators do on plain values -/
def asL : Sl → Option (List D)
  | .ol ds => some ds
  | .im (.list ds) => some ds
  | _ => none
def content : Sl → Option D
  | .im d => some d
  | .ol ds => some (.list ds)
  | _ => none
section
variable {mg : MG} {G : AP} {H : Hp} {v : V} {s : Sl} {d : D} {ds : List D}
theorem VR.asL (h : VR mg G H v s) (e : PL.asL s = some ds) : ∃ a xs, v = .ref a ∧ H a = some (.lst xs) ∧ DnA mg G H xs ds := by
  cases s with
  | no => cases e
  | odk k => cases e
  | odt k => cases e
  | ol es => cases e; obtain ⟨a, rfl, xs, h1, h2⟩ := h; exact ⟨a, xs, rfl, h1, h2⟩
  | im d =>
    cases d <;> first | (cases e; done) | skip
    cases e
    have h : Dn mg G H v (.list ds) := h
    cases h with
    | lst g r a => exact ⟨_, _, rfl, r, a⟩
mutual
theorem Dn.dp : ∀ {v : V} {d : D}, Dn mg G H v d → d.canLay0 = true → Dp mg.K H v d
  | _, _, .non, _ => .non
  | _, _, .bl b, _ => .bl b
  | _, _, .int i, _ => .int i
  | _, _, .str x, _ => .str x
  | _, _, .lst g r a, h => .lst (.of r) (DnA.dp a (by simpa [PyData.canLay0] using h))
  | _, _, .scr g r a, h => by simp [PyData.canLay0] at h
  | _, _, .dk g r k a z, h => by simp [PyData.canLay0] at h
  | _, _, .dt g r k a z, h => by simp [PyData.canLay0] at h
  | _, _, .lk r a, h => by simp [PyData.canLay0] at h
  | _, _, .tup g r a, h => .tup (.of r) (DnA.dp a (by simpa [PyData.canLay0] using h))
  | _, _, .fn _, h => by simp [PyData.canLay0] at h
theorem DnA.dp : ∀ {vs : List V} {ds : List D}, DnA mg G H vs ds → PyData.canLayAll0 ds = true → DpAll mg.K H vs ds
  | _, _, .nil, _ => .nil
  | _, _, .cons (d := d) (ds := ds) a b, h => by
    have h' : PyData.canLay0 d = true ∧ PyData.canLayAll0 ds = true := by simpa [PyData.canLayAll0] using h
    exact .cons (a.dp h'.1) (b.dp h'.2)
end
theorem VR.dp (h : VR mg G H v s) (e : content s = some d) (hl : d.canLay0 = true) : Dp mg.K H v d := by
  cases s with
  | no => cases e
  | odk k => cases e
  | odt k => cases e
  | im d' => cases e; exact Dn.dp h hl
  | ol es =>
    cases e
    obtain ⟨a, rfl, xs, h1, h2⟩ := h
    exact .lst (.of h1) (h2.dp (by simpa [PyData.canLay0] using hl))
end
def nice (d : D) : Bool := SeqAt.shaped d
theorem nice_lay {d : D} (h : nice d = true) : d.canLay0 = true := SeqAt.canLay_of_shaped h
def gAdd : Sl → Sl → Option Rf
  | .im (.int i), .im (.int j) => some (.im (.int (i + j)))
  | .im (.tuple xs), .im (.tuple ys) => if xs.length + ys.length ≤ sizeLine then some (.im (.tuple (xs ++ ys))) else none
  | s, t => match asL s, asL t with
    | some xs, some ys => if xs.length + ys.length ≤ sizeLine then some (.tmp (.ol (xs ++ ys))) else none
    | _, _ => none
def gSub : Sl → Sl → Option Rf
  | .im (.int i), .im (.int j) => some (.im (.int (i - j)))
  | _, _ => none
def gMul : Sl → Sl → Option Rf
  | .im (.int i), .im (.int j) => if (-(2 ^ 64) < i ∧ i < 2 ^ 64) ∨ (-(2 ^ 64) < j ∧ j < 2 ^ 64) then some (.im (.int (i * j))) else none
  | .im (.tuple xs), .im (.int k) => if xs ≠ [] ∧ 2 ≤ k ∧ k ≤ 1000 ∧ xs.length ≤ 1000 then some (.im (.tuple (List.replicate k.toNat xs).flatten)) else none
  | s, .im (.int k) => match asL s with
    | some xs => if (-(2 ^ 63) ≤ k ∧ k < 2 ^ 63) ∧ xs.length * k.toNat ≤ sizeLine then some (.tmp (.ol (List.replicate k.toNat xs).flatten)) else none
    | none => none
  | _, _ => none
def gDiv : Sl → Sl → Option Rf
  | .im (.int i), .im (.int j) => if 0 < j ∧ j < 1073741824 then some (.im (.int (i / j))) else none
  | _, _ => none
def gMod : Sl → Sl → Option Rf
  | .im (.int i), .im (.int j) => if 0 < j then some (.im (.int (i % j))) else none
  | _, _ => none
def gPow : Sl → Sl → Option Rf
  | .im (.int i), .im (.int j) => if 0 ≤ j ∧ j ≤ 1000000 ∧ i.natAbs < 2 ^ 64 then some (.im (.int (i ^ j.toNat))) else none
  | _, _ => none
def gNeg : Sl → Option Rf
  | .im (.int i) => some (.im (.int (-i)))
  | _ => none
def intsOf : List D → Option (List Int)
  | [] => some []
  | .int i :: ds => (match intsOf ds with
    | some r => some (i :: r)
    | none => none)
  | _ :: _ => none
def gLt : Sl → Sl → Option Rf
  | .im (.int i), .im (.int j) => some (.im (.bool (decide (i < j))))
  | .im (.tuple xs), .im (.tuple ys) => (match intsOf xs, intsOf ys with
    | some ns, some ms => some (.im (.bool (HT.lexLt ns ms)))
    | _, _ => none)
  | _, _ => none
def gLe : Sl → Sl → Option Rf
  | .im (.int i), .im (.int j) => some (.im (.bool (decide (i ≤ j))))
  | _, _ => none
def gGt : Sl → Sl → Option Rf
  | .im (.int i), .im (.int j) => some (.im (.bool (decide (j < i))))
  | _, _ => none
def gGe : Sl → Sl → Option Rf
  | .im (.int i), .im (.int j) => some (.im (.bool (decide (j ≤ i))))
  | _, _ => none
def gEq (s t : Sl) : Option Rf := match content s, content t with
  | some d, some e => if nice d = true ∧ nice e = true then some (.im (.bool (PyData.eqv d e))) else none
  | _, _ => none
def gNe (s t : Sl) : Option Rf := match content s, content t with
  | some d, some e => if nice d = true ∧ nice e = true then some (.im (.bool (!PyData.eqv d e))) else none
  | _, _ => none
def items : Sl → Option (List D)
  | .ol ds => some ds
  | .im (.list ds) => some ds
  | .im (.tuple ds) => some ds
  | _ => none
def gIn (s t : Sl) : Option Rf := match content s, items t with
  | some d, some ds => if nice d = true ∧ PyData.canLayAll0 ds = true then some (.im (.bool (ds.any fun y => PyData.eqv y d))) else none
  | _, _ => none
def gNotIn (s t : Sl) : Option Rf := match content s, items t with
  | some d, some ds => if nice d = true ∧ PyData.canLayAll0 ds = true then some (.im (.bool (!ds.any fun y => PyData.eqv y d))) else none
  | _, _ => none
def isNon : D → Bool
  | .none => true
  | _ => false
def gIs (s t : Sl) : Option Rf := match s, t with
  | .im d, .im .none => some (.im (.bool (isNon d)))
  | .ol _, .im .none => some (.im (.bool false))
  | _, _ => none
def gIsNot (s t : Sl) : Option Rf := match s, t with
  | .im d, .im .none => some (.im (.bool (!isNon d)))
  | .ol _, .im .none => some (.im (.bool true))
  | _, _ => none
def gIx : Sl → Sl → Option Rf
  | .im (.tuple ds), .im (.int i) => (atI ds i).map .im
  | .im (.dict [(.none, .list ds)]), .im (.int i) => (atI ds i).map .im
  | s, .im (.int i) => match asL s with
    | some ds => (atI ds i).map .im
    | none => none
  | _, _ => none
section
variable {X : Cx}
theorem tup_of {mg : MG} {G : AP} {H : Hp} {v : V} {ds : List D} (h : Dn mg G H v (.tuple ds)) : ∃ a xs, v = .ref a ∧ ¬ G a ∧ H a = some (.tup xs) ∧ DnA mg G H xs ds := by
  cases h with
  | tup g r a => exact ⟨_, _, rfl, g, r, a⟩
theorem int_of {mg : MG} {G : AP} {H : Hp} {v : V} {i : Int} (h : Dn mg G H v (.int i)) : v = .int i := by cases h; rfl
theorem DnA.nil_iff {mg : MG} {G : AP} {H : Hp} {vs : List V} {ds : List D} (h : DnA mg G H vs ds) : vs = [] ↔ ds = [] := by cases h <;> simp
/-- a new tuple, unguarded -/
theorem new_tup {mg : MG} {G : AP} {H : Hp} {xs : List V} {ds : List D} (t : ∀ b, G b → H b ≠ none) (hd : DnA mg G H xs ds) (hz : xs.length ≤ sizeLine) {p : Addr} (hp : H p = none) : New G H G (upd H p (.tup xs)) ∧ Dn mg G (upd H p (.tup xs)) (.ref p) (.tuple ds) := by
  have n := New.upd (o := .tup xs) t hp hz
  exact ⟨n, .tup (fun g => t p g hp) upd_same (hd.keep n.fz)⟩
/-- a new list, guarded -/
theorem new_lst {mg : MG} {G : AP} {H : Hp} {xs : List V} {ds : List D} (t : ∀ b, G b → H b ≠ none) (hd : DnA mg G H xs ds) (hz : xs.length ≤ sizeLine) {p : Addr} (hp : H p = none) : New G H (fun b => G b ∨ b = p) (upd H p (.lst xs)) ∧ ZR mg H (fun b => G b ∨ b = p) (upd H p (.lst xs)) (.ref p) (.tmp (.ol ds)) := by
  have n := New.updG (o := .lst xs) t hp hz
  exact ⟨n, p, rfl, .inr rfl, hp, xs, upd_same, hd.keep n.fz⟩
theorem ok_add : Op2Ok X (binaryOp .Add) gAdd := by
  refine ⟨_, op_add.or (op_catA.or op_cat), fun G H x y sx sy z Q t lb hx hy hz q => ?_⟩
  -- the lists' case, wherever it comes
  have lists : ∀ xs ys, asL sx = some xs → asL sy = some ys → (if xs.length + ys.length ≤ sizeLine then some (Rf.tmp (.ol (xs ++ ys))) else none) = some z → rCat x y H Q := by
    intro xs ys e1 e2 h
    obtain ⟨a, us, rfl, h1, d1⟩ := hx.asL e1
    obtain ⟨b, ws, rfl, h2, d2⟩ := hy.asL e2
    split at h
    · rename_i hl
      cases h
      have hz : (us ++ ws).length ≤ sizeLine := by rw [List.length_append, d1.length, d2.length]; exact hl
      refine ⟨a, b, us, ws, rfl, rfl, h1, h2, by rw [d1.length, d2.length]; exact hl, fun p hp => ?_⟩
      obtain ⟨n, zr⟩ := new_lst t (d1.append d2) hz hp
      exact q _ _ _ n zr
    · cases h
  unfold gAdd at hz
  split at hz
  · rename_i i j
    cases hz
    obtain rfl := int_of hx
    obtain rfl := int_of hy
    exact .inl ⟨i, j, rfl, rfl, q G H _ (New.refl t) (.int _)⟩
  · rename_i xs ys
    split at hz
    · rename_i hl
      cases hz
      obtain ⟨a, us, rfl, g1, h1, d1⟩ := tup_of hx
      obtain ⟨b, ws, rfl, g2, h2, d2⟩ := tup_of hy
      refine .inr (.inl ⟨a, b, us, ws, rfl, rfl, .of h1, .of h2, by rw [d1.length, d2.length]; exact hl, fun e => ?_, fun e1 e2 => ?_, fun e1 e2 p hp => ?_⟩)
      · have e' := d1.nil_iff.mp e
        subst e'
        exact q G H _ (New.refl t) hy
      · have e' := d2.nil_iff.mp e2
        subst e'
        rw [List.append_nil] at q
        exact q G H _ (New.refl t) hx
      · have hz : (us ++ ws).length ≤ sizeLine := by rw [List.length_append, d1.length, d2.length]; exact hl
        obtain ⟨n, dn⟩ := new_tup t (d1.append d2) hz hp
        exact q _ _ _ n dn
    · cases hz
  · split at hz
    · rename_i xs ys e1 e2
      exact .inr (.inr (lists xs ys e1 e2 hz))
    · cases hz
theorem ok_sub : Op2Ok X (binaryOp .Sub) gSub := by
  refine ⟨_, op_sub, fun G H x y sx sy z Q t lb hx hy hz q => ?_⟩
  unfold gSub at hz
  split at hz
  · rename_i i j
    cases hz
    obtain rfl := int_of hx
    obtain rfl := int_of hy
    exact ⟨i, j, rfl, rfl, q G H _ (New.refl t) (.int _)⟩
  · cases hz
theorem ok_mul : Op2Ok X (binaryOp .Mult) gMul := by
  refine ⟨_, op_mul.or (op_repT.or op_rep), fun G H x y sx sy z Q t lb hx hy hz q => ?_⟩
  unfold gMul at hz
  split at hz
  · rename_i i j
    split at hz
    · rename_i hc
      cases hz
      obtain rfl := int_of hx
      obtain rfl := int_of hy
      exact .inl ⟨i, j, rfl, rfl, hc, q G H _ (New.refl t) (.int _)⟩
    · cases hz
  · rename_i xs k
    split at hz
    · rename_i hc
      cases hz
      obtain ⟨a, us, rfl, g1, h1, d1⟩ := tup_of hx
      obtain rfl := int_of hy
      refine .inr (.inl ⟨a, k, us, rfl, rfl, .of h1, fun z => hc.1 (d1.nil_iff.mp z), hc.2.1, hc.2.2.1, by rw [d1.length]; exact hc.2.2.2, fun p hp => ?_⟩)
      have hz : (List.replicate k.toNat us).flatten.length ≤ sizeLine := by
        rw [List.length_flatten, List.map_replicate, List.sum_replicate_nat, d1.length, sizeLine_eq]
        have h2 : k.toNat ≤ 1000 := by omega
        exact Nat.le_trans (Nat.mul_le_mul h2 hc.2.2.2) (by decide)
      obtain ⟨n, dn⟩ := new_tup t (d1.rep k.toNat) hz hp
      exact q _ _ _ n dn
    · cases hz
  · split at hz
    · rename_i k _ _ _ xs e
      split at hz
      · rename_i hc
        cases hz
        obtain ⟨a, us, rfl, h1, d1⟩ := hx.asL e
        obtain rfl := int_of hy
        refine .inr (.inr ⟨a, k, us, rfl, rfl, h1, hc.1.1, hc.1.2, by rw [d1.length]; exact hc.2, fun p hp => ?_⟩)
        have hz : (List.replicate k.toNat us).flatten.length ≤ sizeLine := by
          rw [List.length_flatten, List.map_replicate, List.sum_replicate_nat, d1.length, Nat.mul_comm]
          exact hc.2
        obtain ⟨n, zr⟩ := new_lst t (d1.rep k.toNat) hz hp
        exact q _ _ _ n zr
      · cases hz
    · cases hz
  · cases hz
theorem ok_div : Op2Ok X (binaryOp .FloorDiv) gDiv := by
  refine ⟨_, op_fdiv, fun G H x y sx sy z Q t lb hx hy hz q => ?_⟩
  unfold gDiv at hz
  split at hz
  · rename_i i j
    split at hz
    · rename_i hc
      cases hz
      obtain rfl := int_of hx
      obtain rfl := int_of hy
      exact ⟨i, j, rfl, rfl, hc, q G H _ (New.refl t) (.int _)⟩
    · cases hz
  · cases hz
theorem ok_mod : Op2Ok X (binaryOp .Mod) gMod := by
  refine ⟨_, op_mod, fun G H x y sx sy z Q t lb hx hy hz q => ?_⟩
  unfold gMod at hz
  split at hz
  · rename_i i j
    split at hz
    · rename_i hc
      cases hz
      obtain rfl := int_of hx
      obtain rfl := int_of hy
      exact ⟨i, j, rfl, rfl, hc, q G H _ (New.refl t) (.int _)⟩
    · cases hz
  · cases hz
theorem ok_pow : Op2Ok X (binaryOp .Pow) gPow := by
  refine ⟨_, op_pow, fun G H x y sx sy z Q t lb hx hy hz q => ?_⟩
  unfold gPow at hz
  split at hz
  · rename_i i j
    split at hz
    · rename_i hc
      cases hz
      obtain rfl := int_of hx
      obtain rfl := int_of hy
      exact ⟨i, j, rfl, rfl, hc, q G H _ (New.refl t) (.int _)⟩
    · cases hz
  · cases hz
theorem ok_neg : Op1Ok X (unaryOp .USub) gNeg := by
  refine ⟨_, un_neg, fun G H x sx z Q t lb hx hz q => ?_⟩
  unfold gNeg at hz
  split at hz
  · rename_i i
    cases hz
    obtain rfl := int_of hx
    exact ⟨i, rfl, q G H _ (New.refl t) (.int _)⟩
  · cases hz
theorem intsOf_ok {mg : MG} {G : AP} {H : Hp} : ∀ {vs : List V} {ds : List D} {ns : List Int}, DnA mg G H vs ds → intsOf ds = some ns → vs = ns.map V.int
  | _, _, _, .nil, h => by cases h; rfl
  | _, _, _, .cons (d := d) a b, h => by
    cases d <;> first | (cases h; done) | skip
    rename_i ds i
    unfold intsOf at h
    split at h
    · rename_i r hr
      cases h
      rw [int_of a, intsOf_ok b hr]
      rfl
    · cases h
theorem ok_lt (hu : X.A.units < cLine) : Op2Ok X (compareOp .Lt) gLt := by
  refine ⟨_, op_lt.or (op_ltT hu), fun G H x y sx sy z Q t lb hx hy hz q => ?_⟩
  unfold gLt at hz
  split at hz
  · rename_i i j
    cases hz
    obtain rfl := int_of hx
    obtain rfl := int_of hy
    exact .inl ⟨i, j, rfl, rfl, q G H _ (New.refl t) (.bl _)⟩
  · split at hz
    · rename_i ns ms e1 e2
      cases hz
      obtain ⟨a, us, rfl, g1, h1, d1⟩ := tup_of hx
      obtain ⟨b, ws, rfl, g2, h2, d2⟩ := tup_of hy
      rw [intsOf_ok d1 e1] at h1
      rw [intsOf_ok d2 e2] at h2
      exact .inr ⟨a, b, ns, ms, rfl, rfl, .of h1, .of h2, q G H _ (New.refl t) (.bl _)⟩
    · cases hz
  · cases hz
theorem ok_le : Op2Ok X (compareOp .LtE) gLe := by
  refine ⟨_, op_le, fun G H x y sx sy z Q t lb hx hy hz q => ?_⟩
  unfold gLe at hz
  split at hz
  · rename_i i j
    cases hz
    obtain rfl := int_of hx
    obtain rfl := int_of hy
    exact ⟨i, j, rfl, rfl, q G H _ (New.refl t) (.bl _)⟩
  · cases hz
theorem ok_gt : Op2Ok X (compareOp .Gt) gGt := by
  refine ⟨_, op_gt, fun G H x y sx sy z Q t lb hx hy hz q => ?_⟩
  unfold gGt at hz
  split at hz
  · rename_i i j
    cases hz
    obtain rfl := int_of hx
    obtain rfl := int_of hy
    exact ⟨i, j, rfl, rfl, q G H _ (New.refl t) (.bl _)⟩
  · cases hz
theorem ok_ge : Op2Ok X (compareOp .GtE) gGe := by
  refine ⟨_, op_ge, fun G H x y sx sy z Q t lb hx hy hz q => ?_⟩
  unfold gGe at hz
  split at hz
  · rename_i i j
    cases hz
    obtain rfl := int_of hx
    obtain rfl := int_of hy
    exact ⟨i, j, rfl, rfl, q G H _ (New.refl t) (.bl _)⟩
  · cases hz
theorem ok_eq (hu : X.A.units + 64 < cLine) : Op2Ok X (compareOp .Eq) gEq := by
  refine ⟨_, op_eqD hu, fun G H x y sx sy z Q t lb hx hy hz q => ?_⟩
  unfold gEq at hz
  split at hz
  · rename_i d e h1 h2
    split at hz
    · rename_i hc
      cases hz
      exact ⟨d, e, hx.dp h1 (nice_lay hc.1), hy.dp h2 (nice_lay hc.2), hc.1, hc.2, q G H _ (New.refl t) (.bl _)⟩
    · cases hz
  · cases hz
theorem ok_ne (hu : X.A.units + 64 < cLine) : Op2Ok X (compareOp .NotEq) gNe := by
  refine ⟨_, op_neD hu, fun G H x y sx sy z Q t lb hx hy hz q => ?_⟩
  unfold gNe at hz
  split at hz
  · rename_i d e h1 h2
    split at hz
    · rename_i hc
      cases hz
      exact ⟨d, e, hx.dp h1 (nice_lay hc.1), hy.dp h2 (nice_lay hc.2), hc.1, hc.2, q G H _ (New.refl t) (.bl _)⟩
    · cases hz
  · cases hz
/-- membership, by data -/
def rInA (K : PySem.W.Frag) (neg : Bool) : R2 := fun x y H Q => ∃ d c ds, (c = PyData.list ds ∨ c = PyData.tuple ds) ∧ Dp K H x d ∧ Dp K H y c ∧ nice d = true ∧ PyData.canLayAll0 ds = true ∧ Q (.bl (if neg then !ds.any fun z => PyData.eqv z d else ds.any fun z => PyData.eqv z d)) H
theorem op_inA (hu : X.A.units + 65 < cLine) : OpR X (compareOp .In) (rInA X.K false) := by
  intro pins s σ H x y v u Q I rx ry ⟨d, c, ds, hc, hd, he, sd, se, q⟩
  obtain ⟨as, r1⟩ := Dp.reads I d x v hd rx
  obtain ⟨bs, r2⟩ := Dp.reads I c y u he ry
  have hf : Q (.bl (ds.any fun z => PyData.eqv z d)) H := q
  rcases hc with rfl | rfl
  · exact SeqAt.in_list_reads r2 r1 se (nice_lay sd) (room_in_shaped sd hu) ⟨.bl _, H, I, rfl, hf⟩
  · exact SeqAt.in_tuple_reads r2 r1 se (nice_lay sd) (room_in_shaped sd hu) ⟨.bl _, H, I, rfl, hf⟩
theorem op_notInA (hu : X.A.units + 65 < cLine) : OpR X (compareOp .NotIn) (rInA X.K true) := by
  intro pins s σ H x y v u Q I rx ry ⟨d, c, ds, hc, hd, he, sd, se, q⟩
  obtain ⟨as, r1⟩ := Dp.reads I d x v hd rx
  obtain ⟨bs, r2⟩ := Dp.reads I c y u he ry
  have hf : Q (.bl (!ds.any fun z => PyData.eqv z d)) H := q
  rcases hc with rfl | rfl
  · exact SeqAt.notIn_list_reads r2 r1 se (nice_lay sd) (room_in_shaped sd hu) ⟨.bl _, H, I, rfl, hf⟩
  · exact SeqAt.notIn_tuple_reads r2 r1 se (nice_lay sd) (room_in_shaped sd hu) ⟨.bl _, H, I, rfl, hf⟩
theorem items_dp {mg : MG} {G : AP} {H : Hp} {v : V} {s : Sl} {ds : List D} (h : VR mg G H v s) (e : items s = some ds) (hl : PyData.canLayAll0 ds = true) : ∃ c, (c = PyData.list ds ∨ c = PyData.tuple ds) ∧ Dp mg.K H v c := by
  cases s with
  | no => cases e
  | odk k => cases e
  | odt k => cases e
  | ol es => cases e; exact ⟨.list ds, .inl rfl, h.dp (s := .ol ds) rfl (by simpa [PyData.canLay0] using hl)⟩
  | im d =>
    cases d <;> first | (cases e; done) | skip
    · cases e; exact ⟨.list ds, .inl rfl, h.dp (s := .im (.list ds)) rfl (by simpa [PyData.canLay0] using hl)⟩
    · cases e; exact ⟨.tuple ds, .inr rfl, h.dp (s := .im (.tuple ds)) rfl (by simpa [PyData.canLay0] using hl)⟩
theorem ok_in (hu : X.A.units + 65 < cLine) : Op2Ok X (compareOp .In) gIn := by
  refine ⟨_, op_inA hu, fun G H x y sx sy z Q t lb hx hy hz q => ?_⟩
  unfold gIn at hz
  split at hz
  · rename_i d ds h1 h2
    split at hz
    · rename_i hc
      cases hz
      obtain ⟨c, hcc, hp⟩ := items_dp hy h2 hc.2
      exact ⟨d, c, ds, hcc, hx.dp h1 (nice_lay hc.1), hp, hc.1, hc.2, q G H _ (New.refl t) (.bl _)⟩
    · cases hz
  · cases hz
theorem ok_notIn (hu : X.A.units + 65 < cLine) : Op2Ok X (compareOp .NotIn) gNotIn := by
  refine ⟨_, op_notInA hu, fun G H x y sx sy z Q t lb hx hy hz q => ?_⟩
  unfold gNotIn at hz
  split at hz
  · rename_i d ds h1 h2
    split at hz
    · rename_i hc
      cases hz
      obtain ⟨c, hcc, hp⟩ := items_dp hy h2 hc.2
      exact ⟨d, c, ds, hcc, hx.dp h1 (nice_lay hc.1), hp, hc.1, hc.2, q G H _ (New.refl t) (.bl _)⟩
    · cases hz
  · cases hz
end
end PL

set_option maxRecDepth 100000
namespace PL
open PySem PySem.Spec PyProof.Rows L2
section
variable {X : Cx} {W : WX} {B : Bs} {a b c e : Expr} {es : List Expr} {ma mb mc m : M Rf} {ms : M (List Rf)} {pos p p2 q : Pos} {np : Nat}
/-! ### is -/
theorem is_of {mg : MG} {G : AP} {H : Hp} {x : V} {d : D} (h : Dn mg G H x d) : decide (x = .non) = isNon d := by
  cases h <;> first | rfl | (simp [isNon]; done)
theorem ok_is : Op2Ok X (compareOp .Is) gIs := by
  refine ⟨_, op_isN.or op_is_bl, fun G H x y sx sy z Q t lb hx hy hz q => ?_⟩
  unfold gIs at hz
  split at hz
  · rename_i d
    cases hz
    have hy : Dn X.ct G H y .none := hy
    cases hy
    exact .inl ⟨rfl, by rw [is_of (show Dn X.ct G H x d from hx)]; exact q G H _ (New.refl t) (.bl _)⟩
  · cases hz
    have hy : Dn X.ct G H y .none := hy
    cases hy
    obtain ⟨a, rfl, _⟩ := hx
    exact .inl ⟨rfl, q G H (.bl false) (New.refl t) (.bl _)⟩
  · cases hz
theorem ok_isNot : Op2Ok X (compareOp .IsNot) gIsNot := by
  refine ⟨_, op_notN, fun G H x y sx sy z Q t lb hx hy hz q => ?_⟩
  unfold gIsNot at hz
  split at hz
  · rename_i d
    cases hz
    have hy : Dn X.ct G H y .none := hy
    cases hy
    have hx : Dn X.ct G H x d := hx
    exact ⟨rfl, by rw [is_of hx]; exact q G H _ (New.refl t) (.bl _)⟩
  · cases hz
    have hy : Dn X.ct G H y .none := hy
    cases hy
    obtain ⟨a, rfl, _⟩ := hx
    exact ⟨rfl, q G H (.bl true) (New.refl t) (.bl _)⟩
  · cases hz
/-- is True, is False -/
def gIsB (s t : Sl) : Option Rf := match s, t with
  | .im (.bool k), .im (.bool l) => some (.im (.bool (decide (k = l))))
  | _, _ => none
def gIsNotB (s t : Sl) : Option Rf := match s, t with
  | .im (.bool k), .im (.bool l) => some (.im (.bool (!decide (k = l))))
  | _, _ => none
theorem ok_isB : Op2Ok X (compareOp .Is) gIsB := by
  refine ⟨_, op_is_bl, fun G H x y sx sy z Q t lb hx hy hz q => ?_⟩
  unfold gIsB at hz
  split at hz
  · rename_i k l
    cases hz
    have hx : Dn X.ct G H x (.bool k) := hx
    have hy : Dn X.ct G H y (.bool l) := hy
    cases hx
    cases hy
    exact ⟨k, l, rfl, rfl, q G H _ (New.refl t) (.bl _)⟩
  · cases hz
theorem ok_isNotB : Op2Ok X (compareOp .IsNot) gIsNotB := by
  refine ⟨_, op_isnot_bl, fun G H x y sx sy z Q t lb hx hy hz q => ?_⟩
  unfold gIsNotB at hz
  split at hz
  · rename_i k l
    cases hz
    have hx : Dn X.ct G H x (.bool k) := hx
    have hy : Dn X.ct G H y (.bool l) := hy
    cases hx
    cases hy
    exact ⟨k, l, rfl, rfl, q G H _ (New.refl t) (.bl _)⟩
  · cases hz

/-! ### items -/
theorem DnA.atI {mg : MG} {G : AP} {H : Hp} {vs : List V} {ds : List D} {i : Int} {d : D} (h : DnA mg G H vs ds) (e : L2.atI ds i = some d) : ∃ v, L2.atI vs i = some v ∧ Dn mg G H v d := by
  unfold L2.atI at e ⊢
  rw [h.length]
  cases hx : ixN ds.length i with
  | none => rw [hx] at e; cases e
  | some j =>
    rw [hx] at e
    exact h.get e
theorem scr_of {mg : MG} {G : AP} {H : Hp} {v : V} {ds : List D} (h : Dn mg G H v (.dict [(.none, .list ds)])) : ∃ a xs, v = .ref a ∧ SqL mg.K H a xs ∧ DnA mg G H xs ds := by
  cases h with
  | scr g r a => exact ⟨_, _, rfl, .inl (.inr ⟨_, r⟩), a⟩
  | lk k a => exact ⟨_, _, rfl, .inr k, a⟩
theorem xitem (ha : XE X W B a ma) (hb : XE X W B b mb) (hs : PlainIx b := by exact fun _ _ => rfl) : XE X W B (.Subscript a b pos) (mOp2 gIx ma mb) := by
  refine xix ix_seq (fun G H x y sx sy z Q t lb hx hy hz q => ?_) ha hb hs
  have fin : ∀ {d : D} {v : V}, Dn X.ct G H v d → z = .im d → Q v H := fun {d v} h e => by subst e; exact q G H v (New.refl t) h
  unfold gIx at hz
  split at hz
  · rename_i ds i
    obtain ⟨d, hd, rfl⟩ := Option.map_eq_some_iff.mp hz
    obtain ⟨p, us, rfl, g1, h1, d1⟩ := tup_of hx
    obtain rfl := int_of hy
    obtain ⟨v, hv, dn⟩ := d1.atI hd
    exact .inr (.inl ⟨p, us, i, v, rfl, rfl, .of h1, hv, fin dn rfl⟩)
  · rename_i ds i
    obtain ⟨d, hd, rfl⟩ := Option.map_eq_some_iff.mp hz
    obtain ⟨p, us, rfl, h1, d1⟩ := scr_of hx
    obtain rfl := int_of hy
    obtain ⟨v, hv, dn⟩ := d1.atI hd
    exact .inl ⟨p, us, i, v, rfl, rfl, h1, hv, fin dn rfl⟩
  · split at hz
    · rename_i i _ _ _ ds he
      obtain ⟨d, hd, rfl⟩ := Option.map_eq_some_iff.mp hz
      obtain ⟨p, us, rfl, h1, d1⟩ := hx.asL he
      obtain rfl := int_of hy
      obtain ⟨v, hv, dn⟩ := d1.atI hd
      exact .inl ⟨p, us, i, v, rfl, rfl, .of h1, hv, fin dn rfl⟩
    · cases hz
  · cases hz

/-! ### slices -/
structure XO (X : Cx) (W : WX) (B : Bs) (o : Option Expr) (m : M (Option Int)) : Prop where
  ex : ∃ t : TO, PO X o t ∧ Imp B X.ct W (fun _ _ _ _ _ (x : Option Int) y => x = y) t m
def mNoPart : M (Option Int) := fun env => .ok none env
def mPart (m : M Rf) : M (Option Int) := m.bind fun x env => match x with
  | .im (.int i) => .ok (some i) env
  | _ => .stuck
theorem xo0 : XO X W B none mNoPart := ⟨⟨_, po_none, fun G H σ env Q E p => p G H _ E rfl Ext.refl⟩⟩
theorem xo (h : XE X W B a m) : XO X W B (some a) (mPart m) := by
  obtain ⟨⟨t, pt, it⟩⟩ := h
  refine ⟨⟨_, po_some pt, fun G H σ env Q E p => ?_⟩⟩
  refine it.run E Ext.refl p fun v x env1 G1 H1 hm1 E1 r1 _ x1 p => ?_
  split at p
  · rename_i i
    obtain rfl := int_of (show Dn X.ct G1 H1 v (.int i) from r1)
    exact ⟨i, rfl, p G1 H1 _ E1 rfl x1⟩
  · exact p.elim
def cutD (ds : List D) (lo hi : Option Int) : List D := (ds.drop (HT.sIx ds.length 0 lo)).take (HT.sIx ds.length ds.length hi - HT.sIx ds.length 0 lo)
theorem DnA.cut {mg : MG} {G : AP} {H : Hp} {vs : List V} {ds : List D} (h : DnA mg G H vs ds) (lo hi : Option Int) : DnA mg G H (cutV vs lo hi) (cutD ds lo hi) := by
  unfold cutV cutD
  rw [h.length]
  exact (h.drop _).take _
def mSlice (m : M Rf) (ml mh : M (Option Int)) : M Rf := m.bind fun x => ml.bind fun lo => mh.bind fun hi env => match view env x with
  | some (.im (.tuple ds)) => .ok (.im (.tuple (cutD ds lo hi))) env
  | some s => (match asL s with
    | some ds => .ok (.tmp (.ol (cutD ds lo hi))) env
    | none => .stuck)
  | none => .stuck
theorem back_O : Back (fun _ _ _ _ _ (x : Option Int) y => x = y) := fun _ _ _ _ _ _ _ _ _ r => r
theorem xslice {lo hi : Option Expr} {ml mh : M (Option Int)} (h : XE X W B a m) (hl : XO X W B lo ml) (hh : XO X W B hi mh) : XE X W B (.Subscript a (.Slice lo hi none p2) pos) (mSlice m ml mh) := by
  obtain ⟨⟨t, pt, it⟩⟩ := h
  obtain ⟨⟨u, pu, iu⟩⟩ := hl
  obtain ⟨⟨w, pw, iw⟩⟩ := hh
  refine .by_ (pe_slice (sl_tupA.or sl_list) pt pu pw) fun G H σ env Q E p => ?_
  refine it.run E Ext.refl p fun v x env1 G1 H1 hm1 E1 r1 _ x1 p => ?_
  refine iu.run E1 x1 p fun lo' y env2 G2 H2 hm2 E2 r2 e2 x2 p => ?_
  refine iw.run E2 x2 p fun hi' y' env3 G3 H3 hm3 E3 r3 e3 x3 p => ?_
  subst r2 r3
  have r := (r1.ext E1 e2).ext E2 e3
  split at p
  · rename_i ds hv
    obtain ⟨q, us, rfl, g1, h1, d1⟩ := tup_of (show Dn X.ct G3 H3 v (.tuple ds) from r.view E3 hv)
    refine .inl ⟨q, us, rfl, .of h1, fun hw => ?_, fun _ q' hq' => ?_⟩
    · -- the whole of it
      have e : cutD ds lo' hi' = ds := by
        unfold cutD
        rw [← d1.length, hw.1, hw.2, d1.length]
        simp
      rw [e] at p
      exact p G3 H3 _ E3 (r.view E3 hv) x3
    · have hz : (cutV us lo' hi').length ≤ sizeLine := Nat.le_trans (cutV_length _ _ _) (E3.lb.1 q us (.inl h1))
      obtain ⟨n, dn⟩ := new_tup E3.gt (d1.cut lo' hi') hz hq'
      exact p _ _ _ (E3.new n) dn (x3.trans n.ext)
  · rename_i s hs hv
    split at p
    · rename_i ds he
      obtain ⟨q, us, rfl, h1, d1⟩ := (r.view E3 hv).asL he
      refine .inr ⟨q, us, rfl, .of h1, fun q' hq' => ?_⟩
      have hz : (cutV us lo' hi').length ≤ sizeLine := Nat.le_trans (cutV_length _ _ _) (E3.lb.1 q us (.inr (.inl h1)))
      obtain ⟨n, zr⟩ := new_lst E3.gt (d1.cut lo' hi') hz hq'
      exact p _ _ _ (E3.new n) ((ZR.rf E3 zr).back x3.e2) (x3.trans n.ext)
    · exact p.elim
  · exact p.elim
/-- xs[::-1] of a list -/
def mRev (m : M Rf) : M Rf := m.bind fun x env => match view env x with
  | some s => (match asL s with
    | some ds => .ok (.tmp (.ol ds.reverse)) env
    | none => .stuck)
  | none => .stuck
theorem xrev {k : Nat} {p1 p3 : Pos} (h : XE X W B a m) : XE X W B (.Subscript a (.Slice none none (some (.UnaryOp .USub (.Constant (.int 1) k p1) p2)) p3) pos) (mRev m) := by
  obtain ⟨⟨t, pt, it⟩⟩ := h
  refine .by_ (pe_revL pt) fun G H σ env Q E p => ?_
  refine it.run E Ext.refl p fun v x env1 G1 H1 hm1 E1 r1 _ x1 p => ?_
  split at p
  · rename_i s hv
    split at p
    · rename_i ds he
      obtain ⟨q, us, rfl, h1, d1⟩ := (r1.view E1 hv).asL he
      refine ⟨q, us, rfl, .of h1, fun q' hq' => ?_⟩
      have hz : us.reverse.length ≤ sizeLine := by rw [List.length_reverse]; exact E1.lb.1 q us (.inr (.inl h1))
      obtain ⟨n, zr⟩ := new_lst E1.gt d1.rev hz hq'
      exact p _ _ _ (E1.new n) ((ZR.rf E1 zr).back x1.e2) (x1.trans n.ext)
    · exact p.elim
  · exact p.elim

/-! ### built-ins -/
def gLen : List Sl → Option Rf
  | [.im (.dict [(.none, .list ds)])] => some (.im (.int ds.length))
  | [s] => (match items s with
    | some ds => some (.im (.int ds.length))
    | none => none)
  | _ => none
theorem items_seq {mg : MG} {G : AP} {H : Hp} {v : V} {s : Sl} {ds : List D} (h : VR mg G H v s) (e : items s = some ds) : ∃ a xs, v = .ref a ∧ (SqL mg.K H a xs ∨ SqT mg.K H a xs) ∧ DnA mg G H xs ds ∧ (LB G H → xs.length ≤ sizeLine) := by
  cases s with
  | no => cases e
  | odk k => cases e
  | odt k => cases e
  | ol es => cases e; obtain ⟨a, rfl, xs, h1, h2⟩ := h; exact ⟨a, xs, rfl, .inl (.of h1), h2, fun l => l.1 a xs (.inr (.inl h1))⟩
  | im d =>
    cases d <;> first | (cases e; done) | skip
    · cases e
      have h : Dn mg G H v (.list ds) := h
      cases h with
      | lst g r a => exact ⟨_, _, rfl, .inl (.of r), a, fun l => l.1 _ _ (.inr (.inl r))⟩
    · cases e
      obtain ⟨a, xs, rfl, g, r, d⟩ := tup_of (show Dn mg G H v (.tuple ds) from h)
      exact ⟨a, xs, rfl, .inr (.of r), d, fun l => l.1 _ _ (.inl r)⟩
theorem ok_len : CallOk X (.builtin "len") gLen := by
  refine ⟨_, call_len_seq, fun G H xs ss z Q t lb hs hz q => ?_⟩
  unfold gLen at hz
  split at hz
  · rename_i ds
    cases hz
    cases hs with
    | cons h r =>
      cases r
      obtain ⟨a, us, rfl, h1, d1⟩ := scr_of h
      exact ⟨a, us, rfl, .inl h1, by rw [d1.length]; exact q G H _ (New.refl t) (.int _)⟩
  · rename_i s _
    split at hz
    · rename_i ds he
      cases hz
      cases hs with
      | cons h r =>
        cases r
        obtain ⟨a, us, rfl, h1, d1, _⟩ := items_seq h he
        exact ⟨a, us, rfl, h1, by rw [d1.length]; exact q G H _ (New.refl t) (.int _)⟩
    · cases hz
  · cases hz
def gList : List Sl → Option Rf
  | [s] => (match items s with
    | some ds => some (.tmp (.ol ds))
    | none => none)
  | _ => none
theorem ok_list : CallOk X (.type "list") gList := by
  refine ⟨_, call_list_of, fun G H xs ss z Q t lb hs hz q => ?_⟩
  unfold gList at hz
  split at hz
  · rename_i s
    split at hz
    · rename_i ds he
      cases hz
      cases hs with
      | cons h r =>
        cases r
        obtain ⟨a, us, rfl, h1, d1, hl⟩ := items_seq h he
        refine ⟨a, us, rfl, h1, fun p hp => ?_⟩
        obtain ⟨n, zr⟩ := new_lst t d1 (hl lb) hp
        exact q _ _ _ n zr
    · cases hz
  · cases hz
def gTuple : List Sl → Option Rf
  | [s] => (match items s with
    | some ds => some (.im (.tuple ds))
    | none => none)
  | _ => none
theorem ok_tuple : CallOk X (.type "tuple") gTuple := by
  refine ⟨_, call_tuple_of, fun G H xs ss z Q t lb hs hz q => ?_⟩
  unfold gTuple at hz
  split at hz
  · rename_i s
    split at hz
    · rename_i ds he
      cases hz
      cases hs with
      | cons h r =>
        cases r
        have fresh : ∀ {a us}, SqL X.K H a us → DnA X.ct G H us ds → us.length ≤ sizeLine → ∀ p : Addr, H p = none → Q (.ref p) (upd H p (.tup us)) := fun {a us} h1 d1 l p hp => by
          obtain ⟨n, dn⟩ := new_tup t d1 l hp
          exact q _ _ _ n dn
        cases s with
        | no => cases he
        | odk k => cases he
        | odt k => cases he
        | ol es =>
          cases he
          obtain ⟨a, rfl, us, h1, d1⟩ := h
          exact ⟨a, us, rfl, .inl ⟨.of h1, fun p hp => fresh (.of h1) d1 (lb.1 a us (.inr (.inl h1))) p hp⟩⟩
        | im d =>
          cases d <;> first | (cases he; done) | skip
          · cases he
            have h : Dn X.ct G H _ (.list _) := h
            cases h with
            | lst g r a => exact ⟨_, _, rfl, .inl ⟨.of r, fun p hp => fresh (.of r) a (lb.1 _ _ (.inr (.inl r))) p hp⟩⟩
          · cases he
            obtain ⟨a, us, rfl, g, r, d⟩ := tup_of (show Dn X.ct G H _ (.tuple ds) from h)
            exact ⟨a, us, rfl, .inr ⟨.of r, q G H _ (New.refl t) h⟩⟩
    · cases hz
  · cases hz
end
end PL

set_option maxRecDepth 100000
namespace PL
open PySem PySem.Spec PyProof.Rows L2

/-! ### an owned object is changed -/
section
variable {B : Bs} {mg : MG} {G G' G1 G2 Gb : AP} {H H' H1 H2 Hb : Hp} {σ : St} {env env' env1 env2 envb : En}
theorem fz_poke {a : Addr} {o : HO} (g : G a) : Fz G H G (upd H a o) := fun b u gb hb => ⟨by rw [upd_ne fun z => gb (by rw [z]; exact g)]; exact hb, gb⟩
theorem ER.pokeOwn {j : Nat} {a : Addr} {o' : HO} {s s' : Sl} (E : ER B mg G H σ env) (hj : env[j]? = some s) (ho : s.own = true) (hv : σ[j]? = some (some (V.ref a))) (f : Fits o') (r : OwR mg G (upd H a o') a s') (nt : ∀ xs, o' ≠ .tup xs := by intro xs h; cases h) :
    ER B mg G (upd H a o') σ (env.set j s') ∧ Ext G H G (upd H a o') σ env (env.set j s') ∧ Fz G H G (upd H a o') := by
  have ow : Ow σ env a := ⟨j, s, hj, ho, hv⟩
  have ga := E.ow ow
  have dom : ∀ b, H b ≠ none → upd H a o' b ≠ none := fun b hb => by
    by_cases e : b = a
    · subst e; rw [upd_same]; simp
    · rw [upd_ne e]; exact hb
  have jl : j < env.length := (List.getElem?_eq_some_iff.mp hj).1
  have c : CallF mg [a] [s'] G H G (upd H a o') := ⟨fun b u hb hn => by rw [upd_ne fun z => hn (by rw [z]; exact List.mem_cons_self)]; exact hb, dom, fun b h => .inl h, fun b h => h, fun b h => dom b (E.gt b h), E.lb.upd f fun _ => nt, .cons r .nil⟩
  obtain ⟨E', o', fz⟩ := E.call (env' := env.set j s') c (List.length_set) (fun i s2 e => by
    rcases getElem?_set_cases e with ⟨z, y⟩ | ⟨z, y⟩
    · subst z y
      exact .inr ⟨a, s, hj, ho, hv, r⟩
    · refine .inl ⟨y, fun o2 b hb hm => ?_⟩
      have e2 : b = a := by simpa using hm
      subst e2
      exact absurd (E.ds i j s2 s b y o2 hj ho hb hv) z) (fun i t e o => by
    by_cases z : j = i
    · subst z
      exact ⟨s', List.getElem?_set_self jl, r.own⟩
    · exact ⟨t, by rw [List.getElem?_set_ne z]; exact e, o⟩) (fun b hb => by
      have e2 : b = a := by simpa using hb
      subst e2
      exact .inl ow) (fun b hb => by
      have e2 : b = a := by simpa using hb
      subst e2
      exact ga)
  refine ⟨E', ⟨fun b u hb hn => ?_, dom, fun b h => .inl h, fun b h _ => h, fun b h => o' b h⟩, fz⟩
  rw [upd_ne fun z => hn (by rw [z]; exact ow)]
  exact hb
/-- an owned list, rewritten -/
theorem ER.pokeL {j : Nat} {a : Addr} {ds ds' : List D} {xs' : List V} (E : ER B mg G H σ env) (hj : env[j]? = some (.ol ds)) (hv : σ[j]? = some (some (V.ref a))) (f : xs'.length ≤ sizeLine) (r : DnA mg G H xs' ds') :
    ER B mg G (upd H a (.lst xs')) σ (env.set j (.ol ds')) ∧ Ext G H G (upd H a (.lst xs')) σ env (env.set j (.ol ds')) ∧ Fz G H G (upd H a (.lst xs')) := by
  have ga := E.ow ⟨j, _, hj, rfl, hv⟩
  exact E.pokeOwn hj rfl hv f ⟨xs', upd_same, r.keep (fz_poke ga)⟩
/-- the list that a name owns -/
theorem ER.own (E : ER B mg G H σ env) {j : Nat} {ds : List D} (hj : env[j]? = some (.ol ds)) : ∃ a xs, σ[j]? = some (some (V.ref a)) ∧ G a ∧ H a = some (.lst xs) ∧ DnA mg G H xs ds ∧ xs.length = ds.length ∧ ds.length ≤ sizeLine := by
  obtain ⟨v, hv, r⟩ := E.sl j _ hj (by simp)
  obtain ⟨a, rfl, g, xs, h, d⟩ := r
  exact ⟨a, xs, hv, g, h, d, d.length, by rw [← d.length]; exact E.lb.1 a xs (.inr (.inl h))⟩
theorem ow_same (E : ER B mg G H σ env) {j : Nat} {a b : Addr} (h : σ[j]? = some (some (V.ref a))) (h' : σ[j]? = some (some (V.ref b))) : a = b := by
  rw [h] at h'; cases h'; rfl
end

/-! ### x.append(e), x.pop(), x.pop(i), x.remove(i) -/
def mAppend (np j : Nat) (m : M Rf) : M Rf := fun env => match env[j]? with
  | some (.ol _) => (m.bind fun x => M.bind (toI np x) fun d env2 => match env2[j]? with
    | some (.ol ds) => if ds.length < sizeLine then .ok (.im .none) (env2.set j (.ol (ds ++ [d]))) else .stuck
    | _ => .stuck) env
  | _ => .stuck
def mPop (j : Nat) : M Rf := fun env => match env[j]? with
  | some (.ol ds) => (match ds[ds.length - 1]? with
    | some d => .ok (.im d) (env.set j (.ol ds.dropLast))
    | none => .stuck)
  | _ => .stuck
def mPopAt (j : Nat) (m : M Rf) : M Rf := fun env => match env[j]? with
  | some (.ol _) => (m.bind fun x env2 => match x, env2[j]? with
    | .im (.int i), some (.ol ds) => (match ixN ds.length i with
      | some k => (match ds[k]? with
        | some d => .ok (.im d) (env2.set j (.ol (ds.eraseIdx k)))
        | none => .stuck)
      | none => .stuck)
    | _, _ => .stuck) env
  | _ => .stuck
def mRemove (j : Nat) (m : M Rf) : M Rf := fun env => match env[j]? with
  | some (.ol _) => (m.bind fun x env2 => match x, env2[j]? with
    | .im (.int i), some (.ol ds) => (match intsOf ds with
      | some ns => if i ∈ ns then .ok (.im .none) (env2.set j (.ol ((ns.erase i).map .int))) else .stuck
      | none => .stuck)
    | _, _ => .stuck) env
  | _ => .stuck
section
variable {X : Cx} {W : WX} {B : Bs} {a b c e : Expr} {es : List Expr} {ma mb mc m : M Rf} {p1 p2 pos apos cpos : Pos} {np : Nat} {x : Str}
theorem tyV_ol {K : PySem.W.Frag} {H : Hp} {a : Addr} {xs : List V} (h : H a = some (.lst xs)) : tyV K "list" (.ref a) H := .inl ⟨rfl, xs, .of h⟩
theorem dnA_ints {mg : MG} {G : AP} {H : Hp} : ∀ ns : List Int, DnA mg G H (ns.map V.int) (ns.map PyData.int)
  | [] => .nil
  | n :: r => .cons (.int n) (dnA_ints r)
theorem xappend (j : Nat) (h : XE X W B e m) (hnp : B.np ≤ np) (hN : X.N[j]? = some x := by rfl) (hv : Vis X.env.scope x := by first | exact Or.inl rfl | exact Or.inr (Or.inl rfl) | exact Or.inr (Or.inr rfl)) (hd : (x == ("__debug__" : Str)) = false := by decide)
    (hcd : (x == ("__classdict__" : Str)) = false := by decide)
    (hbase : attributeBase (.Name x p1) "append" X.env (eval (.Name x p1) X.env) = eval (.Name x p1) X.env := by rfl)
    (hfew : ((backTo cpos (starEach [e] X.env)).all (fun x => !x.1) && (backToKw cpos (keywordEach [] X.env)).all (fun x => x.1.isSome)
      && decide (([e] : List Expr).length + ([] : List Keyword).length + (if ([] : List Keyword).isEmpty then 0 else 1) < 30)) = true := by rfl)
    (hline : (apos.endLine == cpos.line) = true := by rfl) (hs : starEach [e] X.env = (false, eval e X.env) :: starEach [] X.env := by rfl) (hplain : (backTo cpos (starEach [] X.env)).any (·.1) = false := by rfl) :
    XE X W B (.Call (.Attribute (.Name x p1) "append" apos) [e] [] cpos) (mAppend np j m) := by
  obtain ⟨⟨t, pt, it⟩⟩ := h
  refine .by_ (pe_bm (T := "list") PySem.F.plainAttrs_list PySem.F.slot_list_append PySem.F.type_list_append mt_append (pe_var (i := j) hN hv hd hcd) (pa_cons pt pa_nil hs) hbase hfew hline hs hplain) fun G H σ env Q E p => ?_
  unfold mAppend at p
  split at p
  · rename_i ds0 hj0
    obtain ⟨a, xs0, hv0, _, ha0, _⟩ := E.own hj0
    refine ⟨.ref a, hv0, tyV_ol ha0, ?_⟩
    refine it.run E Ext.refl p fun v y env1 G1 H1 _ E1 r1 _ x1 p => ?_
    obtain ⟨d, env2, h2, p⟩ := Post.inv p toI_nox
    obtain ⟨G2, E2, dn, x2, _, _⟩ := toI_ok E.gt E.f2 E1 x1 r1 hnp h2
    split at p
    · rename_i ds hj
      split at p
      · rename_i hl
        obtain ⟨a', xs, hv', _, ha', d1, ln, _⟩ := E2.own hj
        obtain rfl := ow_same E2 hv0 hv'
        obtain ⟨E3, x3, _⟩ := E2.pokeL hj hv' (xs' := xs ++ [v]) (by rw [List.length_append, List.length_singleton]; omega) (d1.append (.cons dn .nil))
        exact ⟨a, xs, v, rfl, rfl, ha', by omega, p _ _ _ E3 .non (x2.trans x3)⟩
      · exact p.elim
    · exact p.elim
  · exact p.elim
theorem xpop (j : Nat) (hN : X.N[j]? = some x := by rfl) (hv : Vis X.env.scope x := by first | exact Or.inl rfl | exact Or.inr (Or.inl rfl) | exact Or.inr (Or.inr rfl)) (hd : (x == ("__debug__" : Str)) = false := by decide)
    (hcd : (x == ("__classdict__" : Str)) = false := by decide)
    (hbase : attributeBase (.Name x p1) "pop" X.env (eval (.Name x p1) X.env) = eval (.Name x p1) X.env := by rfl)
    (hline : (apos.endLine == cpos.line) = true := by rfl) :
    XE X W B (.Call (.Attribute (.Name x p1) "pop" apos) [] [] cpos) (mPop j) := by
  refine .by_ (pe_bm0 (T := "list") PySem.F.plainAttrs_list PySem.F.slot_list_pop PySem.F.type_list_pop mt_pop (pe_var (i := j) hN hv hd hcd) hbase hline) fun G H σ env Q E p => ?_
  unfold mPop at p
  split at p
  · rename_i ds hj
    obtain ⟨a, xs, hv0, _, ha, d1, ln, lz⟩ := E.own hj
    refine ⟨.ref a, hv0, tyV_ol ha, ?_⟩
    split at p
    · rename_i d hd'
      obtain ⟨v, e1, dv⟩ := d1.get hd'
      have hz : xs.dropLast.length ≤ sizeLine := by rw [List.length_dropLast]; omega
      obtain ⟨E3, x3, fz⟩ := E.pokeL hj hv0 (xs' := xs.dropLast) hz d1.dropLast
      exact ⟨a, xs, v, rfl, rfl, ha, by rw [ln]; exact e1, p _ _ _ E3 (dv.keep fz) x3⟩
    · exact p.elim
  · exact p.elim
theorem size63 : (sizeLine : Int) < 2 ^ 63 := by decide
theorem xpopAt (j : Nat) (h : XE X W B e m) (hN : X.N[j]? = some x := by rfl) (hv : Vis X.env.scope x := by first | exact Or.inl rfl | exact Or.inr (Or.inl rfl) | exact Or.inr (Or.inr rfl)) (hd : (x == ("__debug__" : Str)) = false := by decide)
    (hcd : (x == ("__classdict__" : Str)) = false := by decide)
    (hbase : attributeBase (.Name x p1) "pop" X.env (eval (.Name x p1) X.env) = eval (.Name x p1) X.env := by rfl)
    (hfew : ((backTo cpos (starEach [e] X.env)).all (fun x => !x.1) && (backToKw cpos (keywordEach [] X.env)).all (fun x => x.1.isSome)
      && decide (([e] : List Expr).length + ([] : List Keyword).length + (if ([] : List Keyword).isEmpty then 0 else 1) < 30)) = true := by rfl)
    (hline : (apos.endLine == cpos.line) = true := by rfl) (hs : starEach [e] X.env = (false, eval e X.env) :: starEach [] X.env := by rfl) (hplain : (backTo cpos (starEach [] X.env)).any (·.1) = false := by rfl) :
    XE X W B (.Call (.Attribute (.Name x p1) "pop" apos) [e] [] cpos) (mPopAt j m) := by
  obtain ⟨⟨t, pt, it⟩⟩ := h
  refine .by_ (pe_bm (T := "list") PySem.F.plainAttrs_list PySem.F.slot_list_pop PySem.F.type_list_pop mt_popAt (pe_var (i := j) hN hv hd hcd) (pa_cons pt pa_nil hs) hbase hfew hline hs hplain) fun G H σ env Q E p => ?_
  unfold mPopAt at p
  split at p
  · rename_i ds0 hj0
    obtain ⟨a, xs0, hv0, _, ha0, _⟩ := E.own hj0
    refine ⟨.ref a, hv0, tyV_ol ha0, ?_⟩
    refine it.run E Ext.refl p fun v y env1 G1 H1 _ E1 r1 _ x1 p => ?_
    split at p
    · rename_i i ds hj _
      obtain ⟨a', xs, hv', _, ha', d1, ln, lz⟩ := E1.own hj
      obtain rfl := ow_same E1 hv0 hv'
      obtain rfl := int_of (show Dn X.ct G1 H1 v (.int i) from r1)
      split at p
      · rename_i k hk
        split at p
        · rename_i d hd'
          obtain ⟨w, e1, dv⟩ := d1.get hd'
          obtain ⟨q1, q2, q3, q4⟩ := ixN_seq hk
          have hs63 := size63
          have hz : (xs.eraseIdx k).length ≤ sizeLine := Nat.le_trans (len_erase xs k) (by omega)
          obtain ⟨E3, x3, fz⟩ := E1.pokeL hj hv' (xs' := xs.eraseIdx k) hz (d1.eraseIdx k)
          exact ⟨a, xs, i, k, w, rfl, rfl, ha', by omega, by omega, by rw [ln]; exact q1, e1, p _ _ _ E3 (dv.keep fz) (x1.trans x3)⟩
        · exact p.elim
      · exact p.elim
    · exact p.elim
  · exact p.elim
theorem xremove (j : Nat) (h : XE X W B e m) (hN : X.N[j]? = some x := by rfl) (hv : Vis X.env.scope x := by first | exact Or.inl rfl | exact Or.inr (Or.inl rfl) | exact Or.inr (Or.inr rfl)) (hd : (x == ("__debug__" : Str)) = false := by decide)
    (hcd : (x == ("__classdict__" : Str)) = false := by decide)
    (hbase : attributeBase (.Name x p1) "remove" X.env (eval (.Name x p1) X.env) = eval (.Name x p1) X.env := by rfl)
    (hfew : ((backTo cpos (starEach [e] X.env)).all (fun x => !x.1) && (backToKw cpos (keywordEach [] X.env)).all (fun x => x.1.isSome)
      && decide (([e] : List Expr).length + ([] : List Keyword).length + (if ([] : List Keyword).isEmpty then 0 else 1) < 30)) = true := by rfl)
    (hline : (apos.endLine == cpos.line) = true := by rfl) (hs : starEach [e] X.env = (false, eval e X.env) :: starEach [] X.env := by rfl) (hplain : (backTo cpos (starEach [] X.env)).any (·.1) = false := by rfl) :
    XE X W B (.Call (.Attribute (.Name x p1) "remove" apos) [e] [] cpos) (mRemove j m) := by
  obtain ⟨⟨t, pt, it⟩⟩ := h
  refine .by_ (pe_bm (T := "list") PySem.F.plainAttrs_list PySem.F.slot_list_remove PySem.F.type_list_remove mt_remove (pe_var (i := j) hN hv hd hcd) (pa_cons pt pa_nil hs) hbase hfew hline hs hplain) fun G H σ env Q E p => ?_
  unfold mRemove at p
  split at p
  · rename_i ds0 hj0
    obtain ⟨a, xs0, hv0, _, ha0, _⟩ := E.own hj0
    refine ⟨.ref a, hv0, tyV_ol ha0, ?_⟩
    refine it.run E Ext.refl p fun v y env1 G1 H1 _ E1 r1 _ x1 p => ?_
    split at p
    · rename_i i ds hj _
      obtain ⟨a', xs, hv', _, ha', d1, ln, lz⟩ := E1.own hj
      obtain rfl := ow_same E1 hv0 hv'
      obtain rfl := int_of (show Dn X.ct G1 H1 v (.int i) from r1)
      split at p
      · rename_i ns hns
        split at p
        · rename_i hm
          obtain rfl := intsOf_ok d1 hns
          obtain ⟨k, j1, j2, j3, j4⟩ := first_at hm
          have hz : ((ns.erase i).map V.int).length ≤ sizeLine := by
            rw [List.length_map]
            rw [List.length_map] at ln
            exact Nat.le_trans List.length_erase_le (by omega)
          obtain ⟨E3, x3, fz⟩ := E1.pokeL hj hv' (xs' := (ns.erase i).map V.int) hz (dnA_ints _)
          exact ⟨a, ns, i, k, rfl, rfl, ha', j2, fun m hm => j3 m hm, by rw [j4]; exact p _ _ _ E3 .non (x1.trans x3)⟩
        · exact p.elim
      · exact p.elim
    · exact p.elim
  · exact p.elim
end
end PL

set_option maxRecDepth 100000
namespace PL
open PySem PySem.Spec PyProof.Rows L2

/-! ### tuples, op= -/
theorem no_tup_iadd : typeLookup (.type "tuple") (dunderI "add") = pure none := by rw [typeLookup_type, builtinLookup_eq_fast]; kernel_rfl
section
variable {prog : Program} {w : World} {A : Around} {E : Value → Shared → Prop} {s : Shared}
theorem icat_tup {t b : Addr} {vs ws : List Value} {Q : Value → Shared → Prop} (ht : IsTup s.heap t vs.toArray) (hb : IsTup s.heap b ws.toArray) (hsz : vs.length + ws.length ≤ sizeLine) (h0 : vs = [] → Q (.ref b) s)
    (h1 : vs ≠ [] → ws = [] → Q (.ref t) s) (h2 : vs ≠ [] → ws ≠ [] → Q (.ref s.heap.objs.size) { s with heap := s.heap.push { cls := .type "tuple", data := .seq (vs ++ ws).toArray } }) :
    wpAny (model prog w) A (inplaceOp .Add (.ref t) (.ref b)) Q E s := by
  obtain ⟨⟨cls, dd, data, sl⟩, ho, hc, n, hd⟩ := id ht
  obtain ⟨⟨cls2, dd2, data2, sl2⟩, ho2, hc2, n2, hd2⟩ := id hb
  simp only at hc hd hc2 hd2
  subst hc hd hc2 hd2
  have e : vs.toArray ++ ws.toArray = (vs ++ ws).toArray := by simp
  refine wpAny_inplaceOp_concat ⟨_, ho, rfl⟩ ⟨_, ho2, rfl⟩ no_tup_iadd noFill_tuple_add seq_tuple_add ?_
  by_cases hv : vs = []
  · exact call_meets PySem.F.slot_tuple_add ⟨_, ho, rfl⟩ PySem.F.entry_tuple_add (PySem.F.args_tuple_add_2 _ _) (tuple_addW0 t b vs.toArray ws.toArray n n2 dd dd2 sl sl2 (by simp [hv])) ⟨ho, ho2, h0 hv⟩
  · by_cases hw : ws = []
    · exact call_meets PySem.F.slot_tuple_add ⟨_, ho, rfl⟩ PySem.F.entry_tuple_add (PySem.F.args_tuple_add_2 _ _) (tuple_addW1 t b vs.toArray ws.toArray n n2 dd dd2 sl sl2 (by simpa using hv) (by simp [hw])) ⟨ho, ho2, h1 hv hw⟩
    · refine call_meets PySem.F.slot_tuple_add ⟨_, ho, rfl⟩ PySem.F.entry_tuple_add (PySem.F.args_tuple_add_2 _ _) (tuple_addW2 t b vs.toArray ws.toArray n n2 dd dd2 sl sl2 (by simpa using hv) (by simpa using hw) (by rw [List.size_toArray, List.size_toArray]; exact hsz)) ⟨ho, ho2, ?_⟩
      rw [e]
      exact h2 hv hw
end
section
variable {X : Cx}
theorem iop_catA : OpR X (inplaceOp .Add) (rCatA X.K) := by
  intro pins s σ H x y v u Q I rx ry h
  obtain ⟨a, b, xs, ys, rfl, rfl, ha, hb, hz, q0, q1, q2⟩ := h
  cases rx
  cases ry
  obtain ⟨its, r1, p1, _⟩ := I.tuple ha
  obtain ⟨its2, r2, p2, _⟩ := I.tuple hb
  refine icat_tup p1 p2 (by rw [← r1.length, ← r2.length]; exact hz) (fun z => ⟨.ref b, H, I, rfl, q0 (r1.nil_iff.mp z)⟩) (fun z w => ⟨.ref a, H, I, rfl, q1 (fun q => z (r1.nil_iff.mpr q)) (r2.nil_iff.mp w)⟩) fun z w => ?_
  refine ⟨.ref s.heap.objs.size, _, I.laid (t' := s.toks) (o := .tup (xs ++ ys)) (fun b ob q => Heap.get?_push_of_some _ q) (Nat.le_refl _) ?_, rfl, q2 (fun q => z (r1.nil_iff.mpr q)) (fun q => w (r2.nil_iff.mpr q)) _ (I.hok.fresh (Nat.le_refl _))⟩
  exact ⟨by rw [List.length_append]; exact hz, _, r1.append r2, IsTup.new _ _⟩
end

/-! ### name[i] = e, name op= e, name[i] op= e -/
def sSetIx (np j : Nat) (m mi : M Rf) : MS := fun env => (M.bind m (toI np) env).toSR fun d env2 => match env2[j]? with
  | some (.ol _) => (mi env2).toSR fun x env3 => match x, env3[j]? with
    | .im (.int i), some (.ol ds) => (match ixN ds.length i with
      | some k => .nx (env3.set j (.ol (ds.set k d)))
      | none => .stuck)
    | _, _ => .stuck
  | _ => .stuck
def gIAdd : Sl → Sl → Option Rf
  | .im (.int i), .im (.int j) => some (.im (.int (i + j)))
  | .im (.tuple xs), .im (.tuple ys) => if xs.length + ys.length ≤ sizeLine then some (.im (.tuple (xs ++ ys))) else none
  | _, _ => none
def gIMul : Sl → Sl → Option Rf
  | .im (.int i), .im (.int j) => if (-(2 ^ 64) < i ∧ i < 2 ^ 64) ∨ (-(2 ^ 64) < j ∧ j < 2 ^ 64) then some (.im (.int (i * j))) else none
  | _, _ => none
/-- op= of a name that holds a plain value -/
def sAug (np i : Nat) (g : Sl → Sl → Option Rf) (m : M Rf) : MS := fun env => match env[i]? with
  | some (.im d) => (m env).toSR fun y e => match view e y with
    | some s => (match g (.im d) s with
      | some (.im d') => sStore np i (.im d') e
      | _ => .stuck)
    | none => .stuck
  | _ => .stuck
/-- += of a name that owns a list -/
def sExt (i : Nat) (m : M Rf) : MS := fun env => match env[i]? with
  | some (.ol _) => (m env).toSR fun y e => match e[i]?, view e y with
    | some (.ol ds), some s => (match asL s with
      | some es => if ds.length + es.length ≤ sizeLine then .nx (e.set i (.ol (ds ++ es))) else .stuck
      | none => .stuck)
    | _, _ => .stuck
  | _ => .stuck
/-- name[i] op= e, of plain values in an owned list -/
def sAugIx (j : Nat) (g : Sl → Sl → Option Rf) (mi m : M Rf) : MS := fun env => match env[j]? with
  | some (.ol _) => (mi env).toSR fun x e1 => match x, e1[j]? with
    | .im (.int i), some (.ol ds) => (match atI ds i with
      | some d => if i < 0 then (m e1).toSR fun y e2 => match e2[j]?, view e2 y with
        | some (.ol ds2), some s => (match g (.im d) s, ixN ds2.length i with
          | some (.im d'), some k => .nx (e2.set j (.ol (ds2.set k d')))
          | _, _ => .stuck)
        | _, _ => .stuck else .stuck
      | none => .stuck)
    | _, _ => .stuck
  | _ => .stuck
def IpOk (X : Cx) (op : Operator) (g : Sl → Sl → Option Rf) : Prop := ∃ r : R2, OpR X (inplaceOp op) r ∧ Op2R X.ct r g
section
variable {X : Cx} {W : WX} {B : Bs} {a b c e ei : Expr} {es : List Expr} {ma mb mc m mi : M Rf} {p1 p2 pos apos cpos : Pos} {np : Nat} {x : Str}
theorem ip_iadd : IpOk X .Add gIAdd := by
  refine ⟨_, iop_add.or iop_catA, fun G H x y sx sy z Q t lb hx hy hz q => ?_⟩
  unfold gIAdd at hz
  split at hz
  · rename_i i j
    cases hz
    obtain rfl := int_of hx
    obtain rfl := int_of hy
    exact .inl ⟨i, j, rfl, rfl, q G H _ (New.refl t) (.int _)⟩
  · rename_i xs ys
    split at hz
    · rename_i hl
      cases hz
      obtain ⟨a, us, rfl, g1, h1, d1⟩ := tup_of hx
      obtain ⟨b, ws, rfl, g2, h2, d2⟩ := tup_of hy
      have l1 := d1.length
      have l2 := d2.length
      refine .inr ⟨a, b, us, ws, rfl, rfl, .of h1, .of h2, by omega, fun e => ?_, fun e1 e2 => ?_, fun _ _ p hp => ?_⟩
      · subst e
        cases d1
        exact q G H _ (New.refl t) hy
      · subst e2
        cases d2
        rw [List.append_nil] at q
        exact q G H _ (New.refl t) hx
      · obtain ⟨n, dn⟩ := new_tup t (d1.append d2) (by rw [List.length_append]; omega) hp
        exact q _ _ _ n dn
    · cases hz
  · cases hz
theorem ip_imul : IpOk X .Mult gIMul := by
  refine ⟨_, iop_mul, fun G H x y sx sy z Q t lb hx hy hz q => ?_⟩
  unfold gIMul at hz
  split at hz
  · rename_i i j
    split at hz
    · rename_i hc
      cases hz
      obtain rfl := int_of hx
      obtain rfl := int_of hy
      exact ⟨i, j, rfl, rfl, hc, q G H _ (New.refl t) (.int _)⟩
    · cases hz
  · cases hz
theorem ip_isub : IpOk X .Sub gSub := by
  refine ⟨_, iop_sub, fun G H x y sx sy z Q t lb hx hy hz q => ?_⟩
  unfold gSub at hz
  split at hz
  · rename_i i j
    cases hz
    obtain rfl := int_of hx
    obtain rfl := int_of hy
    exact ⟨i, j, rfl, rfl, q G H _ (New.refl t) (.int _)⟩
  · cases hz
theorem xs_aug {op : Operator} {g : Sl → Sl → Option Rf} {i : Nat} (ho : IpOk X op g) (h : XE X W B e m) (hnp : B.np ≤ np) (hN : X.N.Nodup) (hi : X.N[i]? = some x := by rfl) (hx : Loc X.env.scope x := by first | exact .inl rfl | exact .inr rfl)
    (hf : X.fn x = true ∨ X.env.scope.names.lookup x = some .local := by first | exact .inl rfl | exact .inr rfl) : XS X W B (.AugAssign (.Name x p1) op e pos) (sAug np i g m) := by
  obtain ⟨⟨t, pt, it⟩⟩ := h
  obtain ⟨r, hr, hg⟩ := ho
  refine ⟨⟨_, ps_aug hN hi hx pt (ti := r) hr hf, fun G H σ env D E p => ?_⟩⟩
  unfold sAug at p
  split at p
  · rename_i d hd
    obtain ⟨v, hv, dn⟩ := E.sl i _ hd (by simp)
    have dn : Dn X.ct G H v d := dn
    refine ⟨v, hv, ?_⟩
    refine it.runS E p fun w y env1 G1 H1 _ E1 r1 x1 p => ?_
    split at p
    · rename_i s hs
      split at p
      · rename_i d' hg'
        refine hg G1 H1 v w (.im d) s _ _ E1.gt E1.lb (dn.keep (x1.fz E)) (r1.view E1 hs) hg' fun G' H' z n zr => ?_
        exact post_store (s := .im d') (E1.new n) hnp zr (fun o => by cases o) ((x1.fz E).trans n.fz) p
      · exact p.elim
    · exact p.elim
  · exact p.elim
theorem xs_ext {i : Nat} (h : XE X W B e m) (hN : X.N.Nodup) (hi : X.N[i]? = some x := by rfl) (hx : Loc X.env.scope x := by first | exact .inl rfl | exact .inr rfl)
    (hf : X.fn x = true ∨ X.env.scope.names.lookup x = some .local := by first | exact .inl rfl | exact .inr rfl) : XS X W B (.AugAssign (.Name x p1) .Add e pos) (sExt i m) := by
  obtain ⟨⟨t, pt, it⟩⟩ := h
  refine ⟨⟨_, ps_aug hN hi hx pt (ti := rExt2) iop_ext hf, fun G H σ env D E p => ?_⟩⟩
  unfold sExt at p
  split at p
  · rename_i ds0 hd
    obtain ⟨a, xs0, hv0, _, ha0, _⟩ := E.own hd
    refine ⟨.ref a, hv0, ?_⟩
    refine it.runS E p fun w y env1 G1 H1 _ E1 r1 x1 p => ?_
    split at p
    · rename_i ds s hj hs
      split at p
      · rename_i es he
        split at p
        · rename_i hl
          obtain ⟨b, us, rfl, hb, db⟩ := (r1.view E1 hs).asL he
          obtain ⟨a', xs, hv', _, ha', d1, ln, lz⟩ := E1.own hj
          obtain rfl := ow_same E1 hv0 hv'
          have l2 := db.length
          obtain ⟨E3, x3, fz⟩ := E1.pokeL hj hv' (xs' := xs ++ us) (by rw [List.length_append]; omega) (d1.append db)
          have same : σ.set i (some (.ref a)) = σ := by
            apply List.ext_getElem?
            intro k
            by_cases ek : i = k
            · subst ek
              rw [List.getElem?_set_self (List.getElem?_eq_some_iff.mp hv').1, hv']
            · rw [List.getElem?_set_ne ek]
          refine ⟨a, b, xs, us, rfl, rfl, ha', hb, by omega, ?_⟩
          show D.nx (σ.set i (some (.ref a))) _
          rw [same]
          exact p _ _ _ E3 ((x1.fz E).trans fz)
        · exact p.elim
      · exact p.elim
    · exact p.elim
  · exact p.elim
theorem xs_setIx {j : Nat} (h : XE X W B e m) (h2 : XE X W B ei mi) (hnp : B.np ≤ np) (hN : X.N[j]? = some x := by rfl) (hv : Vis X.env.scope x := by first | exact Or.inl rfl | exact Or.inr (Or.inl rfl) | exact Or.inr (Or.inr rfl)) (hd : (x == ("__debug__" : Str)) = false := by decide)
    (hcd : (x == ("__classdict__" : Str)) = false := by decide)
    (ha : ∀ v, assign (.Subscript (.Name x p1) ei p2) X.env v = (do
      let ov ← holding [v] (eval (.Name x p1) X.env)
      let iv ← holding [v, ov] (eval ei X.env)
      standAt p2
      holding [v, ov, iv] (setItem ov iv v)
      release [v, ov, iv] []) := by intro _; rfl)
    (hs : swapsWithSole [.Subscript (.Name x p1) ei p2] e pos.line X.env = pure false := by rfl) (hw : swappedStores [.Subscript (.Name x p1) ei p2] e X.env = pure none := by rfl)
    (h1 : (assignEach [.Subscript (.Name x p1) ei p2] X.env).map (·.2) = [assign (.Subscript (.Name x p1) ei p2) X.env] := by rfl) :
    XS X W B (.Assign [.Subscript (.Name x p1) ei p2] e pos) (sSetIx np j m mi) := by
  obtain ⟨⟨t, pt, it⟩⟩ := h
  obtain ⟨⟨u, pu, iu⟩⟩ := h2
  refine ⟨⟨_, ps_asg pt (pg_sub (pe_var (i := j) hN hv hd hcd) pu set_list ha) hs hw h1, fun G H σ env D E p => ?_⟩⟩
  have p : PostS B X.ct W G H ((m env).toSR fun x e => (toI np x e).toSR fun d env2 => match env2[j]? with
    | some (.ol _) => (mi env2).toSR fun x env3 => match x, env3[j]? with
      | .im (.int i), some (.ol ds) => (match ixN ds.length i with
        | some k => .nx (env3.set j (.ol (ds.set k d)))
        | none => .stuck)
      | _, _ => .stuck
    | _ => .stuck) D := by
    have q : sSetIx np j m mi env = (m env).toSR fun x e => (toI np x e).toSR fun d env2 => match env2[j]? with
      | some (.ol _) => (mi env2).toSR fun x env3 => match x, env3[j]? with
        | .im (.int i), some (.ol ds) => (match ixN ds.length i with
          | some k => .nx (env3.set j (.ol (ds.set k d)))
          | none => .stuck)
        | _, _ => .stuck
      | _ => .stuck := by
      unfold sSetIx M.bind
      cases m env <;> rfl
    rw [← q]; exact p
  refine it.runS E p fun v y env1 G1 H1 _ E1 r1 x1 p => ?_
  obtain ⟨d, env2, h2, p⟩ := PostS.inv p toI_nox
  obtain ⟨G2, E2, dn, x2, th, _⟩ := toI_ok E.gt E.f2 E1 x1 r1 hnp h2
  split at p
  · rename_i ds0 hj0
    obtain ⟨a, xs0, hv0, _, ha0, _⟩ := E2.own hj0
    refine ⟨.ref a, hv0, ?_⟩
    refine iu.runS (D := D) E2 (PostS.shift (x2.fz E) p) fun w z env3 G3 H3 _ E3 r3 x3 p => ?_
    split at p
    · rename_i i ds hj _
      obtain ⟨a', xs, hv', _, ha', d1, ln, lz⟩ := E3.own hj
      obtain rfl := ow_same E3 hv0 hv'
      obtain rfl := int_of (show Dn X.ct G3 H3 w (.int i) from r3)
      split at p
      · rename_i k hk
        have dn3 := dn.keep (x3.fz E2)
        obtain ⟨E4, x4, fz⟩ := E3.pokeL hj hv' (xs' := xs.set k v) (by rw [List.length_set]; omega) (d1.set dn3 k)
        exact ⟨a, xs, i, k, rfl, rfl, ha', by rw [ln]; exact hk, p _ _ _ E4 ((x3.fz E2).trans fz)⟩
      · exact p.elim
    · exact p.elim
  · exact p.elim
/-- an item of a list, by its place from behind -/
def rGetL (K : PySem.W.Frag) : V → V → Hp → VK → Prop := fun o i H Q => ∃ p xs k v, o = .ref p ∧ i = .int k ∧ SqL K H p xs ∧ k < 0 ∧ atI xs k = some v ∧ Q v H
theorem get_list : PGet X (rGetL X.K) := by
  intro pins s σ H o i ov iv Q I ro ri h
  obtain ⟨p, xs, k, z, rfl, rfl, hq, h0, he, q⟩ := h
  cases ro
  obtain ⟨t, rfl⟩ := ri
  obtain ⟨its, r, pl, hz⟩ := I.list hq
  obtain ⟨j, h1, h2, h3, h4, h5⟩ := atI_get he
  obtain ⟨w, ew, rw'⟩ := r.get h2
  have hl := r.length
  have hn := line63
  have hj : (k + (its.toArray.size : Int)).toNat = j := by
    rw [seqIndex_neg (by omega) h4] at h1
    rw [List.size_toArray, ← hl]
    exact Option.some.inj h1
  exact wpAny_getItem_list_neg pl.isList (by omega) (by rw [List.size_toArray] <;> omega) (by omega) (by rw [hj]; simpa using ew) ⟨z, H, I, rw', q⟩
theorem xs_augIx {op : Operator} {g : Sl → Sl → Option Rf} {j : Nat} (ho : IpOk X op g) (h2 : XE X W B ei mi) (h : XE X W B e m) (hN : X.N[j]? = some x := by rfl) (hv : Vis X.env.scope x := by first | exact Or.inl rfl | exact Or.inr (Or.inl rfl) | exact Or.inr (Or.inr rfl)) (hd : (x == ("__debug__" : Str)) = false := by decide)
    (hcd : (x == ("__classdict__" : Str)) = false := by decide)
    (ha : ∀ ov iv new, augStore ei ov iv new = (do holding [new, ov, iv] (setItem ov iv new); release [new, ov, iv] []; pure .next) := by intros; rfl) :
    XS X W B (.AugAssign (.Subscript (.Name x p1) ei p2) op e pos) (sAugIx j g mi m) := by
  obtain ⟨⟨t, pt, it⟩⟩ := h
  obtain ⟨⟨u, pu, iu⟩⟩ := h2
  obtain ⟨r, hr, hg⟩ := ho
  refine ⟨⟨_, ps_augS (pe_var (i := j) hN hv hd hcd) pu get_list pt hr set_list ha, fun G H σ env D E p => ?_⟩⟩
  unfold sAugIx at p
  split at p
  · rename_i ds0 hj0
    obtain ⟨a, xs0, hv0, _, ha0, _⟩ := E.own hj0
    refine ⟨.ref a, hv0, ?_⟩
    refine iu.runS E p fun w z env1 G1 H1 _ E1 r1 x1 p => ?_
    split at p
    · rename_i i ds hj _
      obtain ⟨a', xs, hv', ga', ha', d1, ln, lz⟩ := E1.own hj
      obtain rfl := ow_same E1 hv0 hv'
      obtain rfl := int_of (show Dn X.ct G1 H1 w (.int i) from r1)
      split at p
      · rename_i d hd
        split at p
        · rename_i hi0
          obtain ⟨v, e1, dv⟩ := d1.atI hd
          refine ⟨a, xs, i, v, rfl, rfl, .of ha', hi0, e1, ?_⟩
          refine it.runS (D := D) E1 (PostS.shift (x1.fz E) p) fun y z2 env2 G2 H2 _ E2 r2 x2 p => ?_
          split at p
          · rename_i ds2 s hj2 hs
            split at p
            · rename_i d' k hg' hk
              refine hg G2 H2 v y (.im d) s _ _ E2.gt E2.lb (dv.keep (x2.fz E1)) (r2.view E2 hs) hg' fun G3 H3 w3 n zr => ?_
              have E3 := E2.new n
              obtain ⟨a2, xs2, hv2, _, ha2, d2, ln2, lz2⟩ := E3.own hj2
              obtain rfl := ow_same E3 hv' hv2
              obtain ⟨E4, x4, fz⟩ := E3.pokeL hj2 hv2 (xs' := xs2.set k w3) (by rw [List.length_set]; omega) (d2.set (show Dn X.ct G3 H3 w3 d' from zr) k)
              exact ⟨a, xs2, i, k, rfl, rfl, ha2, by rw [ln2]; exact hk, p _ _ _ E4 (((x2.fz E1).trans n.fz).trans fz)⟩
            · exact p.elim
          · exact p.elim
        · exact p.elim
      · exact p.elim
    · exact p.elim
  · exact p.elim

end
/-! ### a, b = e, f -/
def toSs (np : Nat) : List Rf → M (List Sl)
  | [] => fun env => .ok [] env
  | x :: xs => M.bind (toS np x) fun s => M.bind (toSs np xs) fun ss env => .ok (s :: ss) env
def storeAll (np : Nat) : List Nat → List Sl → MS
  | i :: is, s :: ss => fun env => (match setSl np i s env with
    | some e => storeAll np is ss e
    | none => .stuck)
  | [], [] => fun env => .nx env
  | _, _ => fun _ => .stuck
def setAll : St → List Nat → List V → St
  | σ, i :: is, v :: vs => setAll (σ.set i (some v)) is vs
  | σ, _, _ => σ
def sPar (np : Nat) (is : List Nat) (ms : M (List Rf)) : MS := fun env => (ms env).toSR fun xs e1 => (toSs np xs e1).toSR fun ss e2 => storeAll np is ss e2
inductive SsR (mg : MG) (B : Bs) (G : AP) (H : Hp) (σ : St) (env : En) : List V → List Sl → Prop
  | nil : SsR mg B G H σ env [] []
  | cons {v : V} {vs : List V} {s : Sl} {ss : List Sl} : SlR mg G H v s → (s.own = true → ∀ a, v = .ref a → ¬ Ow σ env a ∧ B.H0 a = none) → (s.own = true → ∀ (i : Nat) s', ss[i]? = some s' → s'.own = true → vs[i]? ≠ some v) → SsR mg B G H σ env vs ss → SsR mg B G H σ env (v :: vs) (s :: ss)
theorem toSs_nox {np : Nat} : ∀ {xs : List Rf} {env : En} c e, toSs np xs env ≠ .exn c e
  | [], _, c, e, h => by cases h
  | x :: xs, env, c, e, h => by
    have h : (toS np x env).bind (fun s => M.bind (toSs np xs) fun ss env => .ok (s :: ss) env) = .exn c e := h
    cases q : toS np x env with
    | exn c' e' => exact toS_nox c' e' q
    | stuck => rw [q] at h; cases h
    | ok s e1 =>
      rw [q] at h
      have h : (toSs np xs e1).bind (fun ss env => .ok (s :: ss) env) = .exn c e := h
      cases q2 : toSs np xs e1 with
      | exn c' e' => exact toSs_nox c' e' q2
      | stuck => rw [q2] at h; cases h
      | ok ss e2 => rw [q2] at h; cases h
section
variable {B : Bs} {mg : MG} {G G' G1 G2 Gb : AP} {H H' H1 H2 Hb : Hp} {σ : St} {env env' env1 env2 envb : En}
theorem SsR.get : ∀ {vs : List V} {ss : List Sl} {i : Nat} {s : Sl}, SsR mg B G H σ env vs ss → ss[i]? = some s → ∃ v, vs[i]? = some v ∧ SlR mg G H v s
  | _, _, _, _, .nil, e => by simp at e
  | _, _, 0, _, .cons a _ _ _, e => by simp at e; subst e; exact ⟨_, rfl, a⟩
  | _, _, i + 1, _, .cons _ _ _ r, e => by
    obtain ⟨v, h1, h2⟩ := SsR.get (i := i) r (by simpa using e)
    exact ⟨v, by simpa using h1, h2⟩
/-- a reference among the rest, when one of them is shared -/
theorem RfA.shared {x : Rf} {v : V} {env1 : En} {np : Nat} (th : Thaw σ env v x G G1) (ow : ∀ b, Ow σ env1 b → Ow σ env b) (hx : ∀ s, x ≠ .tmp s) : ∀ {vs : List V} {xs : List Rf}, RfA mg Hb G H σ env vs xs → RfA mg Hb G1 H σ env1 vs xs
  | _, _, .nil => .nil
  | _, _, .cons (x := y) q m r => by
    refine .cons ?_ m (RfA.shared (np := np) th ow hx r)
    cases y with
    | im d' => exact Dn.keep th.fz q
    | var j => exact q
    | tmp s' =>
      obtain ⟨a', rfl, t', no⟩ := q
      refine ⟨a', rfl, ⟨?_, t'.new, t'.r.keep th.fz fun _ z => z⟩, fun z => no (ow a' z)⟩
      by_cases g : G1 a'
      · exact g
      · rcases th.at_ a' t'.g g with z | ⟨z, s, z'⟩
        · exact absurd z no
        · exact absurd z' (hx s)
theorem toSs_ok {np : Nat} (tb : ∀ b, Gb b → Hb b ≠ none) (h0 : ∀ b, B.H0 b ≠ none → Hb b ≠ none) (hnp : B.np ≤ np) : ∀ {xs : List Rf} {vs : List V} {ss : List Sl} {G : AP} {env env' : En}, ER B mg G H σ env → Ext Gb Hb G H σ envb env → RfA mg Hb G H σ env vs xs →
    toSs np xs env = .ok ss env' → ∃ G', ER B mg G' H σ env' ∧ SsR mg B G' H σ env' vs ss ∧ Ext Gb Hb G' H σ envb env' ∧ Fz G H G' H ∧ (∀ b, Ow σ env' b → Ow σ env b) ∧ (∀ b, G b → ¬ Ow σ env b → G' b) ∧
      ∀ (i : Nat) s, ss[i]? = some s → s.own = true → xs[i]? = some (.tmp s)
  | [], _, _, G, env, env', E, x0, r, h => by
    cases r
    cases h
    exact ⟨G, E, .nil, x0, Fz.refl, fun _ z => z, fun _ z _ => z, fun i s e => by simp at e⟩
  | x :: xs, _, _, G, env, env', E, x0, r, h => by
    cases r with
    | cons r1 n r2 =>
      rename_i v vs
      obtain ⟨s, env1, h1, h⟩ := bind_ok_inv h
      obtain ⟨ss', env2, h2, h⟩ := bind_ok_inv h
      cases h
      cases x with
      | im d =>
        cases h1
        obtain ⟨G2, E2, sr, x2, fz2, ow2, g2, t2⟩ := toSs_ok tb h0 hnp E x0 r2 h2
        refine ⟨G2, E2, .cons (s := .im d) (Dn.keep fz2 r1) (fun o => by cases o) (fun o => by cases o) sr, x2, fz2, ow2, g2, fun i s e o => ?_⟩
        cases i with
        | zero => simp at e; subst e; cases o
        | succ i => simpa using t2 i s (by simpa using e) o
      | var j =>
        have h1 : (toI np (.var j) env).bind (fun d env => Res.ok (Sl.im d) env) = .ok s env1 := h1
        obtain ⟨d, e1, h3, h4⟩ := bind_ok_inv h1
        cases h4
        obtain ⟨G1, E1, dn, x1, th, ow1⟩ := toI_ok tb h0 E x0 r1 hnp h3
        obtain ⟨G2, E2, sr, x2, fz2, ow2, g2, t2⟩ := toSs_ok tb h0 hnp E1 x1 (r2.shared (np := np) th ow1 fun s z => by cases z) h2
        refine ⟨G2, E2, .cons (s := .im d) (Dn.keep fz2 dn) (fun o => by cases o) (fun o => by cases o) sr, x2, Fz.trans th.fz fz2, fun b z => ow1 b (ow2 b z), fun b gb nb => ?_, fun i s e o => ?_⟩
        · by_cases g1 : G1 b
          · exact g2 b g1 fun z => nb (ow1 b z)
          · rcases th.at_ b gb g1 with z | ⟨z, s, z'⟩
            · exact absurd z nb
            · cases z'
        · cases i with
          | zero => simp at e; subst e; cases o
          | succ i => simpa using t2 i s (by simpa using e) o
      | tmp s0 =>
        cases h1
        obtain ⟨G2, E2, sr, x2, fz2, ow2, g2, t2⟩ := toSs_ok tb h0 hnp E x0 r2 h2
        obtain ⟨a, rfl, t, no⟩ := r1
        refine ⟨G2, E2, .cons (.mk_own (g2 a t.g no) (t.r.keep fz2 fun _ z => z)) (fun _ b hb => ?_) (fun _ i s' e o => ?_) sr, x2, fz2, ow2, g2, fun i s e o => ?_⟩
        · cases hb
          exact ⟨fun z => no (ow2 a z), back_none h0 t.new⟩
        · exact n s rfl i s' (t2 i s' e o)
        · cases i with
          | zero => simp at e; subst e; rfl
          | succ i => simpa using t2 i s (by simpa using e) o
theorem storeAll_ok {np : Nat} {W : WX} {D : Ends} {G0 : AP} {H0 : Hp} (hnp : B.np ≤ np) : ∀ {is : List Nat} {ss : List Sl} {vs : List V} {σ : St} {env : En}, ER B mg G H σ env → SsR mg B G H σ env vs ss → Fz G0 H0 G H → PostS B mg W G0 H0 (storeAll np is ss env) D → D.nx (setAll σ is vs) H
  | [], [], _, σ, env, E, r, fz, p => by
    cases r
    exact p G H σ E fz
  | [], _ :: _, _, _, _, _, _, _, p => p.elim
  | _ :: _, [], _, _, _, _, _, _, p => p.elim
  | i :: is, s :: ss, _, σ, env, E, r, fz, p => by
    cases r with
    | cons sr ho hd rr =>
      rename_i v vs
      unfold storeAll at p
      split at p
      · rename_i e he
        have E' := E.store hnp sr ho he
        unfold setAll
        refine storeAll_ok hnp E' ?_ fz p
        -- the rest, over the new slots
        have he2 : e = env.set i s := by
          unfold setSl at he
          split at he
          · cases he
          · split at he
            · cases he
            · cases he; rfl
        subst he2
        have go : ∀ {ws : List V} {ts : List Sl}, (s.own = true → ∀ (i : Nat) s', ts[i]? = some s' → s'.own = true → ws[i]? ≠ some v) → SsR mg B G H σ env ws ts → SsR mg B G H (σ.set i (some v)) (env.set i s) ws ts := by
          intro ws ts hd r
          induction r with
          | nil => exact .nil
          | @cons w ws t ts a b c r ih =>
            refine .cons a (fun o d hw => ⟨fun z => ?_, (b o d hw).2⟩) c (ih fun o k s' e o' => by simpa using hd o (k + 1) s' (by simpa using e) o')
            obtain ⟨k, u, e, o', q⟩ := z
            rcases getElem?_set_cases e with ⟨z1, y⟩ | ⟨z1, y⟩
            · subst z1 y
              have il : k < σ.length := by
                rw [E.len]
                unfold setSl at he
                split at he
                · cases he
                · rename_i t ht; exact (List.getElem?_eq_some_iff.mp ht).1
              rw [List.getElem?_set_self il] at q
              cases q
              exact hd o' 0 t rfl o (by rw [hw]; rfl)
            · rw [List.getElem?_set_ne (Ne.symm z1)] at q
              exact (b o d hw).1 ⟨k, u, y, o', q⟩
        exact go hd rr
      · exact p.elim
end
section
variable {X : Cx} {W : WX} {B : Bs} {a b c e ei : Expr} {es : List Expr} {ma mb mc m mi : M Rf} {ms : M (List Rf)} {p1 p2 pos apos cpos : Pos} {np : Nat} {x : Str}
theorem imp_par {ta : TA} {is : List Nat} (hnp : B.np ≤ np) (ia : Imp B X.ct W (rA X.ct) ta ms) : ImpS B X.ct W (fun D σ H => ta σ H fun vs H1 => D.nx (setAll σ is vs) H1) (sPar np is ms) := fun G H σ env D E p => by
  refine ia.runS E p fun vs xs env1 G1 H1 _ E1 r1 x1 p => ?_
  obtain ⟨ss, e2, h2, p⟩ := PostS.inv p toSs_nox
  obtain ⟨G2, E2, sr, x2, fz2, _⟩ := toSs_ok E.gt E.f2 hnp E1 x1 r1 h2
  exact storeAll_ok hnp E2 sr ((x1.fz E).trans fz2) p
theorem RfA.two {mg : MG} {Hb : Hp} {G : AP} {H : Hp} {σ : St} {env : En} {vs : List V} {x y : Rf} (h : RfA mg Hb G H σ env vs [x, y]) : ∃ v w, vs = [v, w] := by
  cases h with
  | cons a _ r =>
    cases r with
    | cons b _ r => cases r; exact ⟨_, _, rfl⟩
theorem mCons_len {m : M Rf} {r : M (List Rf)} {n : Nat} (h : ∀ env xs e, r env = .ok xs e → xs.length = n) : ∀ env xs e, mCons m r env = .ok xs e → xs.length = n + 1 := fun env xs e q => by
  obtain ⟨y, e1, h1, q⟩ := bind_ok_inv q
  obtain ⟨ys, e2, h2, q⟩ := bind_ok_inv q
  cases q
  rw [List.length_cons, h _ _ _ h2]
theorem mNil_len : ∀ env xs e, mNil env = .ok xs e → xs.length = 0 := fun env xs e q => by cases q; rfl
theorem xs_par2 {i j : Nat} {x y : Str} {px py pt : Pos} {kt k2 pt2} (ha : XE X W B a ma) (hb : XE X W B b mb) (hnp : B.np ≤ np) (hc : X.calm = true) (hN : X.N.Nodup) (hij : i ≠ j) (hi : X.N[i]? = some x := by rfl) (hj : X.N[j]? = some y := by rfl)
    (hx : X.env.scope.names.lookup x = some .local := by rfl) (hy : X.env.scope.names.lookup y = some .local := by rfl)
    (hw : swappedStores [.Tuple [.Name x px, .Name y py] kt pt] (.Tuple [a, b] k2 pt2) X.env = pure (some [x, y]) := by rfl)
    (hs : swapsWithSole [.Tuple [.Name x px, .Name y py] kt pt] (.Tuple [a, b] k2 pt2) pos.line X.env = pure false := by rfl)
    (h1 : starEach [a, b] X.env = (false, eval a X.env) :: starEach [b] X.env := by rfl) (h2 : starEach [b] X.env = (false, eval b X.env) :: starEach [] X.env := by rfl) :
    XS X W B (.Assign [.Tuple [.Name x px, .Name y py] kt pt] (.Tuple [a, b] k2 pt2) pos) (sPar np [i, j] (mCons ma (mCons mb mNil))) := by
  obtain ⟨⟨ta, pa, ia⟩⟩ := xa ha (xa hb xa0 h2) h1
  refine ⟨⟨_, ps_par hc hN hi hj hij hx hy pa hw hs, fun G H σ env D E p => ?_⟩⟩
  refine ia.runS E p fun vs xs env1 G1 H1 hm E1 r1 x1 p => ?_
  have hl : vs.length = 2 := by rw [r1.length]; exact mCons_len (mCons_len mNil_len) _ _ _ hm
  obtain ⟨ss, e2, h2, p⟩ := PostS.inv p toSs_nox
  obtain ⟨G2, E2, sr, x2, fz2, _⟩ := toSs_ok E.gt E.f2 hnp E1 x1 r1 h2
  have q := storeAll_ok hnp E2 sr ((x1.fz E).trans fz2) p
  match vs, hl, q with
  | [v, w], _, q => exact ⟨v, w, rfl, q⟩
theorem xs_par3 {i j l : Nat} {x y z : Str} {px py pz pt : Pos} {kt k2 pt2} (ha : XE X W B a ma) (hb : XE X W B b mb) (hcc : XE X W B c mc) (hnp : B.np ≤ np) (hc : X.calm = true) (hN : X.N.Nodup) (hij : i ≠ j) (hil : i ≠ l) (hjl : j ≠ l) (hi : X.N[i]? = some x := by rfl) (hj : X.N[j]? = some y := by rfl) (hl : X.N[l]? = some z := by rfl)
    (hx : X.env.scope.names.lookup x = some .local := by rfl) (hy : X.env.scope.names.lookup y = some .local := by rfl) (hz : X.env.scope.names.lookup z = some .local := by rfl)
    (hw : swappedStores [.Tuple [.Name x px, .Name y py, .Name z pz] kt pt] (.Tuple [a, b, c] k2 pt2) X.env = pure (some [x, y, z]) := by rfl)
    (hs : swapsWithSole [.Tuple [.Name x px, .Name y py, .Name z pz] kt pt] (.Tuple [a, b, c] k2 pt2) pos.line X.env = pure false := by rfl)
    (h1 : starEach [a, b, c] X.env = (false, eval a X.env) :: starEach [b, c] X.env := by rfl) (h2 : starEach [b, c] X.env = (false, eval b X.env) :: starEach [c] X.env := by rfl) (h3 : starEach [c] X.env = (false, eval c X.env) :: starEach [] X.env := by rfl) :
    XS X W B (.Assign [.Tuple [.Name x px, .Name y py, .Name z pz] kt pt] (.Tuple [a, b, c] k2 pt2) pos) (sPar np [i, j, l] (mCons ma (mCons mb (mCons mc mNil)))) := by
  obtain ⟨⟨ta, pa, ia⟩⟩ := xa ha (xa hb (xa hcc xa0 h3) h2) h1
  refine ⟨⟨_, ps_par3 hc hN hi hj hl hij hil hjl hx hy hz pa hw hs, fun G H σ env D E p => ?_⟩⟩
  refine ia.runS E p fun vs xs env1 G1 H1 hm E1 r1 x1 p => ?_
  have hn : vs.length = 3 := by rw [r1.length]; exact mCons_len (mCons_len (mCons_len mNil_len)) _ _ _ hm
  obtain ⟨ss, e2, h2, p⟩ := PostS.inv p toSs_nox
  obtain ⟨G2, E2, sr, x2, fz2, _⟩ := toSs_ok E.gt E.f2 hnp E1 x1 r1 h2
  have q := storeAll_ok hnp E2 sr ((x1.fz E).trans fz2) p
  match vs, hn, q with
  | [u, v, w], _, q => exact ⟨u, v, w, rfl, q⟩
/-! ### a, b = e: the items of a tuple -/
def sUnp (np : Nat) (mt : MT) (m : M Rf) : MS := fun env => (M.bind m (toI np) env).toSR fun d e => match mt d e with
  | some e' => .nx e'
  | none => .stuck
theorem xs_unp {tg : Expr} {sl : List Nat} {mt : MT} (h : XE X W B e m) (hg : XG X B tg sl mt) (hnp : B.np ≤ np) (hs : swapsWithSole [tg] e pos.line X.env = pure false := by rfl) (hw : swappedStores [tg] e X.env = pure none := by rfl)
    (h1 : (assignEach [tg] X.env).map (·.2) = [assign tg X.env] := by rfl) : XS X W B (.Assign [tg] e pos) (sUnp np mt m) := by
  obtain ⟨⟨t, pt, it⟩⟩ := h
  obtain ⟨⟨g, pg, ig⟩⟩ := hg
  refine ⟨⟨_, ps_asg pt pg hs hw h1, fun G H σ env D E p => ?_⟩⟩
  have p : PostS B X.ct W G H ((m env).toSR fun x e => (toI np x e).toSR fun d e => match mt d e with
    | some e' => .nx e'
    | none => .stuck) D := by
    have q : sUnp np mt m env = (m env).toSR fun x e => (toI np x e).toSR fun d e => match mt d e with
      | some e' => .nx e'
      | none => .stuck := by
      unfold sUnp M.bind
      cases m env <;> rfl
    rw [← q]; exact p
  refine it.runS E p fun v y env1 G1 H1 _ E1 r1 x1 p => ?_
  obtain ⟨d, env2, h2, p⟩ := PostS.inv p toI_nox
  obtain ⟨G2, E2, dn, x2, th, _⟩ := toI_ok E.gt E.f2 E1 x1 r1 hnp h2
  split at p
  · rename_i e' he
    exact ig G2 H1 σ env2 v d e' _ E2 dn he fun σ' E' _ _ => p G2 H1 σ' E' (x2.fz E)
  · exact p.elim
end
end PL

set_option maxRecDepth 100000

/-! ### sorted(tuple) -/
namespace SrtT
open PySem PyProof.Rows Srt SrtO
section
variable {prog : Program} {w : World} {A : Around} {E : Value → Shared → Prop} {s : Shared}
theorem coll_tup {l : Addr} {vs : List Value} {Q : List Value → Shared → Prop} (ht : IsTup s.heap l vs.toArray) (h : Q vs { s with heap := (s.heap.push (seqObj "list" #[] 0)).update s.heap.objs.size (Obj.mapSeq (· ++ vs.toArray)) })
    (hz : vs.length ≤ sizeLine) : wpAny (model prog w) A (collect (.ref l)) Q E s := by
  obtain ⟨ob, look, cl, k, dt⟩ := ht
  have look' : (s.heap.push (seqObj "list" #[] 0)).get? l = some ob := Heap.get?_push_of_some _ look
  unfold collect
  refine wpAny_bind (wpAny_runValue (codeAny_builtin entry_proto_collect' ?_))
  refine show wpAny _ _ (do again (.builtin "list.__iadd__" ⟨[← newList [], .ref l], []⟩)) _ _ s from ?_
  refine wpAny_bind (wpAny_newList (wpAny_pure (And.intro (Code.quiet_builtin _ (by decide +kernel)) (codeAny_builtin entry_list_iadd' ?_))))
  refine show wpAny _ _ (Builtin.List.listExtendWith (.ref s.heap.objs.size) (.ref l) (.ref s.heap.objs.size)) _ _ { s with heap := s.heap.push (seqObj "list" #[] 0) } from ?_
  unfold Builtin.List.listExtendWith
  refine wpAny_bind (wpAny_typeOf (T := "tuple") (Exists.intro ob (And.intro look' cl)) ?_)
  have isT : (Value.type "tuple" == Value.type "tuple") = true := by rfl
  rw [if_pos (by rw [isT, Bool.or_true])]
  refine wpAny_bind (listItems_at look' dt ?_)
  refine wpAny_bind (listItems_at (n := 0) (xs := #[]) (Heap.get?_push_size _ rfl) rfl ?_)
  rw [if_neg (by first | (simp; done) | exact Bool.false_ne_true)]
  refine wpAny_bind (listUpdate_at (n := 0) (xs := #[]) (Heap.get?_push_size _ rfl) rfl ?_ (Nat.zero_le _) (by show (#[] ++ vs.toArray).size ≤ _; simp only [Array.size_append, List.size_toArray, List.length_nil]; omega))
  refine wpAny_pure ?_
  refine show wpAny _ _ (load s.heap.objs.size >>= fun o => (match o.data with | .seq xs _ => pure xs.toList | _ => unsupported "internal:collect")) _ _ { s with heap := (s.heap.push (seqObj "list" #[] 0)).update s.heap.objs.size (Obj.mapSeq (· ++ vs.toArray)) } from ?_
  refine wpAny_bind (wpAny_load (get?_update_seq (Heap.get?_push_size _ rfl) _) ?_)
  have e : ((#[] : Array Value) ++ vs.toArray).toList = vs := by simp
  refine show wpAny _ _ (pure ((#[] : Array Value) ++ vs.toArray).toList) _ _ _ from ?_
  rw [e]
  exact wpAny_pure h
/-- sorted(t), t a tuple -/
theorem sorted_tup {l : Addr} {vs : List Value} {ltv : Value → Value → Bool} {Q : Value → Shared → Prop} (O : Swo ltv) (ht : IsTup s.heap l vs.toArray) (hz : vs.length ≤ sizeLine)
    (hS : 2 ≤ vs.length → ∀ (h1 : Heap) (a : Addr), h1.get? a = some (seqObj "list" vs.toArray 0) → (∀ b o, s.heap.get? b = some o → b ≠ a ∧ h1.get? b = some o) → SortableO prog w A.in1.in1 { s with heap := h1 } a vs ltv)
    (h : ∀ out : List Value, Srtd ltv out → Stb ltv out vs → Q (.ref (s.heap.objs.size + 1)) { s with heap := sortedAll s.heap vs out.toArray }) : wpAny (model prog w) A (call (.builtin "sorted") [.ref l]) Q E s := by
  apply Calls.call_function_entry kind_sorted plain_sorted entry_sorted (args_sorted1 _)
  unfold Builtin.«sorted»
  apply wpAny_bind (m := checkCount "sorted" 1 1 _)
  apply wpAny_pure
  refine wpAny_bind (coll_tup ht ?_ hz)
  refine wpAny_bind (wpAny_newList ?_ hz)
  have sz : ((s.heap.push (seqObj "list" #[] 0)).update s.heap.objs.size (Obj.mapSeq (· ++ vs.toArray))).objs.size = s.heap.objs.size + 1 := by
    rw [Heap.size_update]; exact size_push' _ _
  have old : ∀ b o, s.heap.get? b = some o → ((s.heap.push (seqObj "list" #[] 0)).update s.heap.objs.size (Obj.mapSeq (· ++ vs.toArray))).get? b = some o ∧ b < s.heap.objs.size := fun b o q => by
    have lt : b < s.heap.objs.size := Heap.lt_size q
    exact ⟨by rw [Heap.get?_update_ne _ _ _ _ (Nat.ne_of_lt lt)]; exact Heap.get?_push_of_some _ q, lt⟩
  generalize hh : (s.heap.push (seqObj "list" #[] 0)).update s.heap.objs.size (Obj.mapSeq (· ++ vs.toArray)) = h0 at sz old
  have oL : (h0.push (seqObj "list" vs.toArray 0)).get? (s.heap.objs.size + 1) = some (seqObj "list" vs.toArray 0) := by
    rw [← sz]; exact Heap.get?_push_size _ rfl
  have kp : ∀ b o, s.heap.get? b = some o → b ≠ s.heap.objs.size + 1 ∧ (h0.push (seqObj "list" vs.toArray 0)).get? b = some o := fun b o q => by
    obtain ⟨q1, q2⟩ := old b o q
    exact ⟨Nat.ne_of_lt (Nat.lt_succ_of_lt q2), Heap.get?_push_of_some _ q1⟩
  show wpAny _ _ _ _ _ { s with heap := h0.push (seqObj "list" vs.toArray 0) }
  rw [sz]
  have fin : ∀ out : List Value, Srtd ltv out → Stb ltv out vs → Q (.ref (s.heap.objs.size + 1)) { s with heap := sortedHeap (h0.push (seqObj "list" vs.toArray 0)) (s.heap.objs.size + 1) vs out.toArray } := fun out a b => by
    rw [← hh]
    exact h out a b
  refine wpAny_bind (wpAny_holding (wpAny_call_entry slot_list_sort (Exists.intro _ (And.intro oL rfl)) entry_list_sort ?_ (args_list_sort _)))
  exact list_sort_ord O oL hz (fun h2 => hS h2 _ _ oL kp) fun out a b => ⟨_, rfl, wpAny_pure ⟨_, rfl, fin out a b⟩⟩
end
end SrtT
namespace L2
open PySem PySem.Spec PyProof.Rows
/-- sorted(xs), the ints of a list or tuple -/
def rSortedQ (K : PySem.W.Frag) : List V → Hp → VK → Prop := fun vs H Q => ∃ (a : Addr) (ns : List Int), vs = [V.ref a] ∧ SqT K H a (ns.map V.int) ∧
  ∀ (ns' : List Int) (p : Addr), ns'.Perm ns → ns'.Pairwise (· ≤ ·) → H p = none → Q (.ref p) (upd H p (.lst (ns'.map V.int)))
section
variable {X : Cx}
theorem cr_sortedQ : CallR X (.builtin "sorted") (rSortedQ X.K) := by
  intro pins s σ H vs us Q I r h
  obtain ⟨a, ns, rfl, ht, q⟩ := h
  obtain ⟨its, rv, pl, hz⟩ := I.tuple ht
  rw [Vals.ref1 r]
  have zi := rv.ints
  have lz : its.length ≤ sizeLine := by rw [← rv.length]; exact hz
  refine SrtT.sorted_tup SrtO.swo_int pl lz (fun h2 _ _ _ _ => SrtO.ints_sortable zi h2) fun out o1 o2 => ?_
  obtain ⟨i1, i2, i3⟩ := SrtO.ints_out zi o1 o2
  obtain ⟨e, look⟩ := PyProof.Rows.sortedAll_at s.heap its out.toArray
  have len : ((out.map SrtO.iv).map V.int).length ≤ sizeLine := by
    rw [List.length_map] at hz ⊢
    rw [i2.length_eq]; exact hz
  have I' : Inv X pins σ (upd H (s.heap.objs.size + 1) (.lst ((out.map SrtO.iv).map V.int))) { s with heap := PyProof.Rows.sortedAll s.heap its out.toArray } :=
    I.laid (t' := s.toks) (fun b o => PyProof.Rows.sortedAll_old) (Nat.le_succ _) ⟨len, out, e, vals_of_ints i1, look⟩
  exact ⟨.ref _, _, I', rfl, q _ _ i2 i3 (I.hok.fresh (Nat.le_succ _))⟩
/-- set(t), t a tuple of ints -/
def rSetQ (K : PySem.W.Frag) (w : World) : List V → Hp → VK → Prop := fun vs H Q => ∃ (a : Addr) (ns : List Int), vs = [V.ref a] ∧ SqT K H a (ns.map V.int) ∧ ns.length < 1000 ∧
  ∀ (p : Addr) (c : Nat), H p = none → c ≤ ns.length → Q (.ref p) (upd H p (SetO w p (fun j => decide (j ∈ ns)) c))
theorem cr_setQ (hc : X.calm = true) : CallR X (.type "set") (rSetQ X.K X.w) := by
  intro pins s σ H vs us Q I r h
  obtain ⟨a, ns, rfl, ht, hl, q⟩ := h
  obtain ⟨its, rv, pl, hz⟩ := I.tuple ht
  rw [Vals.ref1 r]
  refine call_set_tupI ns (I.ok.hd hc) pl (by simpa using rv.ints) (by unfold scanBound; omega) fun h' tk c R cl kp => ?_
  have I' : Inv X pins σ (upd H s.heap.objs.size (SetO X.w s.heap.objs.size (fun j => decide (j ∈ ns)) c)) { s with heap := h', toks := tk } := I.laid (t' := tk) kp (Nat.le_refl _) (setO_new R)
  exact ⟨.ref _, _, I', rfl, q _ c (I.hok.fresh (Nat.le_refl _)) cl⟩
end
end L2

set_option maxRecDepth 100000
namespace PL
open PySem PySem.Spec PyProof.Rows L2

/-! ### sorted ints -/
def insI (a : Int) : List Int → List Int
  | [] => [a]
  | b :: r => if a ≤ b then a :: b :: r else b :: insI a r
def sortI : List Int → List Int
  | [] => []
  | a :: r => insI a (sortI r)
def dedupI : List Int → List Int
  | [] => []
  | a :: r => if a ∈ r then dedupI r else a :: dedupI r
theorem insI_perm (a : Int) : ∀ l, (insI a l).Perm (a :: l)
  | [] => .refl _
  | b :: r => by
    unfold insI
    split
    · exact .refl _
    · exact ((insI_perm a r).cons b).trans (.swap a b r)
theorem sortI_perm : ∀ l, (sortI l).Perm l
  | [] => .refl _
  | a :: r => (insI_perm a (sortI r)).trans ((sortI_perm r).cons a)
theorem insI_mem {a x : Int} {l : List Int} : x ∈ insI a l ↔ x = a ∨ x ∈ l := by
  rw [(insI_perm a l).mem_iff, List.mem_cons]
theorem insI_sorted {a : Int} : ∀ {l}, l.Pairwise (· ≤ ·) → (insI a l).Pairwise (· ≤ ·)
  | [], _ => by unfold insI; simp
  | b :: r, h => by
    obtain ⟨h1, h2⟩ := List.pairwise_cons.mp h
    unfold insI
    split
    · rename_i hab
      refine List.pairwise_cons.mpr ⟨fun x hx => ?_, h⟩
      rcases List.mem_cons.mp hx with e | e
      · rw [e]; exact hab
      · exact Int.le_trans hab (h1 x e)
    · rename_i hab
      refine List.pairwise_cons.mpr ⟨fun x hx => ?_, insI_sorted h2⟩
      rcases insI_mem.mp hx with e | e
      · rw [e]; omega
      · exact h1 x e
theorem sortI_sorted : ∀ l, (sortI l).Pairwise (· ≤ ·)
  | [] => .nil
  | a :: r => insI_sorted (sortI_sorted r)
theorem sorted_uniq : ∀ {l m : List Int}, l.Pairwise (· ≤ ·) → m.Pairwise (· ≤ ·) → l.Perm m → l = m
  | [], m, _, _, p => p.nil_eq
  | a :: l, [], _, _, p => by have := p.length_eq; simp at this
  | a :: l, b :: m, h, k, p => by
    obtain ⟨h1, h2⟩ := List.pairwise_cons.mp h
    obtain ⟨k1, k2⟩ := List.pairwise_cons.mp k
    have e : a = b := by
      have q1 : a ≤ b := by
        rcases List.mem_cons.mp (p.mem_iff.mpr List.mem_cons_self) with e | e
        · omega
        · exact h1 b e
      have q2 : b ≤ a := by
        rcases List.mem_cons.mp (p.mem_iff.mp (List.mem_cons_self (a := a))) with e | e
        · omega
        · exact k1 a e
      omega
    subst e
    rw [sorted_uniq h2 k2 p.cons_inv]
theorem dedupI_mem {x : Int} : ∀ {l}, x ∈ dedupI l ↔ x ∈ l
  | [] => .rfl
  | a :: r => by
    unfold dedupI
    split
    · rename_i h
      rw [dedupI_mem, List.mem_cons]
      exact ⟨.inr, fun z => z.elim (fun e => e ▸ h) id⟩
    · rw [List.mem_cons, List.mem_cons, dedupI_mem]
theorem dedupI_nodup : ∀ l, (dedupI l).Nodup
  | [] => .nil
  | a :: r => by
    unfold dedupI
    split
    · exact dedupI_nodup r
    · rename_i h
      exact List.nodup_cons.mpr ⟨fun z => h (dedupI_mem.mp z), dedupI_nodup r⟩
theorem perm_of_mem {l m : List Int} (h : l.Nodup) (k : m.Nodup) (e : ∀ x, x ∈ l ↔ x ∈ m) : l.Perm m := (List.perm_ext_iff_of_nodup h k).mpr e

/-! ### sorted, sets -/
def gSorted : List Sl → Option Rf
  | [s] => (match items s with
    | some ds => (match intsOf ds with
      | some ns => some (.tmp (.ol ((sortI ns).map .int)))
      | none => none)
    | none => none)
  | _ => none
section
variable {X : Cx} {W : WX} {B : Bs} {a b c e ei tg : Expr} {es : List Expr} {ma mb mc m mi : M Rf} {ms : M (List Rf)} {p p1 p2 pos apos cpos tpos : Pos} {np : Nat} {x : Str}
theorem dnA_int {mg : MG} {G : AP} {H : Hp} (ns : List Int) : DnA mg G H (ns.map V.int) (ns.map .int) := dnA_ints ns
theorem intsOf_map {ns : List Int} : ∀ {ds : List D}, intsOf ds = some ns → ds = ns.map .int
  | [], h => by cases h; rfl
  | d :: ds, h => by
    cases d <;> first | (cases h; done) | skip
    rename_i i
    have h : (match intsOf ds with
      | some r => some (i :: r)
      | none => none) = some ns := h
    split at h
    · rename_i r hr
      cases h
      rw [intsOf_map hr]; rfl
    · cases h
theorem intsOf_of (ns : List Int) : intsOf (ns.map .int) = some ns := by
  induction ns with
  | nil => rfl
  | cons n r ih =>
    show (match intsOf (r.map .int) with
      | some r => some (n :: r)
      | none => none) = _
    rw [ih]
theorem ok_sorted : CallOk X (.builtin "sorted") gSorted := by
  refine ⟨_, cr_sortedI.or cr_sortedQ, fun G H xs ss z Q t lb hs hz q => ?_⟩
  unfold gSorted at hz
  split at hz
  · rename_i s
    split at hz
    · rename_i ds he
      split at hz
      · rename_i ns hn
        cases hz
        cases hs with
        | cons h r =>
          cases r
          have fin : ∀ (ns' : List Int) (p : Addr), ns.length ≤ sizeLine → ns'.Perm ns → ns'.Pairwise (· ≤ ·) → H p = none → Q (.ref p) (upd H p (.lst (ns'.map V.int))) := fun ns' p lz pm pw hp => by
            have e : ns' = sortI ns := sorted_uniq pw (sortI_sorted ns) (pm.trans (sortI_perm ns).symm)
            subst e
            obtain ⟨n, zr⟩ := new_lst t (dnA_int (sortI ns)) (by rw [List.length_map, pm.length_eq]; exact lz) hp
            exact q _ _ _ n zr
          have lz : ∀ {us : List V}, us = ns.map V.int → us.length ≤ sizeLine → ns.length ≤ sizeLine := fun {us} e l => by rw [e, List.length_map] at l; exact l
          cases s with
          | no => cases he
          | odk k => cases he
          | odt k => cases he
          | ol es =>
            cases he
            obtain ⟨a, rfl, us, h1, d1⟩ := h
            obtain rfl := intsOf_ok d1 hn
            exact .inl ⟨a, ns, rfl, .of h1, fun ns' p pm pw hp => fin ns' p (lz rfl (lb.1 a _ (.inr (.inl h1)))) pm pw hp⟩
          | im d =>
            cases d <;> first | (cases he; done) | skip
            · cases he
              have h : Dn X.ct G H _ (.list _) := h
              cases h with
              | lst g r d1 =>
                obtain rfl := intsOf_ok d1 hn
                exact .inl ⟨_, ns, rfl, .of r, fun ns' p pm pw hp => fin ns' p (lz rfl (lb.1 _ _ (.inr (.inl r)))) pm pw hp⟩
            · cases he
              obtain ⟨a, us, rfl, g, r, d1⟩ := tup_of (show Dn X.ct G H _ (.tuple ds) from h)
              obtain rfl := intsOf_ok d1 hn
              exact .inr ⟨a, ns, rfl, .of r, fun ns' p pm pw hp => fin ns' p (lz rfl (lb.1 _ _ (.inl r))) pm pw hp⟩
      · cases hz
    · cases hz
  · cases hz
/-- len of a set of ints -/
def rLenSet (w : World) : List V → Hp → VK → Prop := fun xs H Q => ∃ (a : Addr) (S : Int → Bool) (n : Nat), xs = [V.ref a] ∧ H a = some (SetO w a S n) ∧ n < 1000 ∧ ∀ keys : List Int, keys.Nodup → (∀ k, k ∈ keys ↔ S k = true) → Q (.int (keys.length : Nat)) H
theorem cr_lenSet : CallR X (.builtin "len") (rLenSet X.w) := by
  intro pins s σ H xs us Q I r h
  obtain ⟨a, S, n, rfl, ha, hn, q⟩ := h
  obtain ⟨o, es, ep, t, ho, hex, hd, g, nd, hm, hb, hf, hl, _⟩ := setO_get I ha
  rw [Vals.ref1 r]
  have eq : (es.toList.map keyOf).length = es.size := by rw [List.length_map, Array.length_toList]
  have q' := q _ nd fun k => (hm k).symm
  rw [eq] at q'
  exact call_len_set ho hex hd hf (by rw [hl] <;> omega) ⟨.int es.size, H, I.tok _, ⟨_, rfl⟩, q'⟩
/-- sorted(set(t)), len(set(t)): t a tuple of ints -/
def mSetI (f : List Int → Rf) (m : M Rf) : M Rf := m.bind fun x env => match view env x with
  | some (.im (.tuple ds)) => (match intsOf ds with
    | some ns => if ns.length < 64 then .ok (f ns) env else .stuck
    | none => .stuck)
  | _ => .stuck
theorem imp_set (f : List Int → Rf) {k : V → Hp → VK → Prop} {t : TE} (it : Imp B X.ct W (rV X.ct) t m)
    (hk : ∀ (G : AP) (H : Hp) (ns : List Int) (p : Addr) (c : Nat) (Q : VK), (∀ b, G b → H b ≠ none) → H p = some (SetO X.w p (fun j => decide (j ∈ ns)) c) → c < 64 → (∀ G' H' v, New G H G' H' → ZR X.ct H G' H' v (f ns) → Q v H') → k (.ref p) H Q)
    : Imp B X.ct W (rV X.ct) (fun σ H Q => tCB (rSetQ X.K X.w) (tCons t tNil) σ H fun v H1 => k v H1 Q) (mSetI f m) := fun G H σ env Q E p => by
  refine it.run E Ext.refl p fun v x env1 G1 H1 _ E1 r1 _ x1 p => ?_
  split at p
  · rename_i ds hv
    split at p
    · rename_i ns hn
      split at p
      · rename_i hl
        obtain ⟨a, us, rfl, g, r, d1⟩ := tup_of (show Dn X.ct G1 H1 v (.tuple ds) from r1.view E1 hv)
        obtain rfl := intsOf_ok d1 hn
        refine ⟨a, ns, rfl, .of r, by omega, fun p1 c hp hc => ?_⟩
        have n1 : New G1 H1 G1 (upd H1 p1 (SetO X.w p1 (fun j => decide (j ∈ ns)) c)) := New.upd E1.gt hp trivial
        have E2 := E1.new n1
        exact hk G1 _ ns p1 c Q E2.gt upd_same (by omega) fun G' H' v n zr => p G' H' v (E2.new n) ((ZR.rf E2 zr).back fun b hb => n1.dom b (x1.e2 b hb)) ((x1.trans n1.ext).trans n.ext)
      · exact p.elim
    · exact p.elim
  · exact p.elim
theorem xsortSet (hc : X.calm = true) (hm1 : X.mg "sorted" = none) (hm2 : X.mg "set" = none) (h : XE X W B a m) (hg1 : Gl X "sorted" := by rfl) (hg2 : Gl X "set" := by rfl)
    (na : starEach [a] X.env = (false, eval a X.env) :: starEach [] X.env := by rfl)
    (nb : starEach [.Call (.Name "set" p2) [a] [] cpos] X.env = (false, eval (.Call (.Name "set" p2) [a] [] cpos) X.env) :: starEach [] X.env := by rfl) :
    XE X W B (.Call (.Name "sorted" p) [.Call (.Name "set" p2) [a] [] cpos] [] pos) (mSetI (fun ns => .tmp (.ol ((sortI (dedupI ns)).map .int))) m) := by
  obtain ⟨⟨t, pt, it⟩⟩ := h
  refine .by_ (pe_callB (cr_sortedSet hc) hg1 hm1 boot_sorted (pa_cons (pe_callTy (cr_setQ hc) hg2 hm2 PyProof.Rows.boot_set (pa_cons pt pa_nil na) (he := na) (hpl := rfl)) pa_nil nb) (he := nb) (hpl := rfl)) ?_
  refine imp_set _ (k := fun v H Q => rSortedSet X.w [v] H Q) it fun G H ns p c Q t hp hc q => ⟨p, _, c, rfl, hp, hc, fun ks p2 pw mem _ hp2 => ?_⟩
  have e : ks = sortI (dedupI ns) := by
    refine sorted_uniq (pw.imp fun h => Int.le_of_lt h) (sortI_sorted _) ((perm_of_mem (pw.imp fun h e => by omega) (dedupI_nodup ns) fun x => ?_).trans (sortI_perm _).symm)
    rw [mem x, dedupI_mem, decide_eq_true_eq]
  subst e
  have len : (sortI (dedupI ns)).length = c := by assumption
  obtain ⟨n, zr⟩ := new_lst t (dnA_int (sortI (dedupI ns))) (by rw [List.length_map, len, sizeLine_eq]; omega) hp2
  exact q _ _ _ n zr
theorem xlenSet (hc : X.calm = true) (hm1 : X.mg "len" = none) (hm2 : X.mg "set" = none) (h : XE X W B a m) (hg1 : Gl X "len" := by rfl) (hg2 : Gl X "set" := by rfl)
    (na : starEach [a] X.env = (false, eval a X.env) :: starEach [] X.env := by rfl)
    (nb : starEach [.Call (.Name "set" p2) [a] [] cpos] X.env = (false, eval (.Call (.Name "set" p2) [a] [] cpos) X.env) :: starEach [] X.env := by rfl) :
    XE X W B (.Call (.Name "len" p) [.Call (.Name "set" p2) [a] [] cpos] [] pos) (mSetI (fun ns => .im (.int ((dedupI ns).length : Nat))) m) := by
  obtain ⟨⟨t, pt, it⟩⟩ := h
  refine .by_ (pe_callB cr_lenSet hg1 hm1 PySem.boot_len (pa_cons (pe_callTy (cr_setQ hc) hg2 hm2 PyProof.Rows.boot_set (pa_cons pt pa_nil na) (he := na) (hpl := rfl)) pa_nil nb) (he := nb) (hpl := rfl)) ?_
  refine imp_set _ (k := fun v H Q => rLenSet X.w [v] H Q) it fun G H ns p c Q t hp hc q => ⟨p, _, c, rfl, hp, by omega, fun ks nd mem => ?_⟩
  have e : ks.length = (dedupI ns).length := (perm_of_mem nd (dedupI_nodup ns) fun x => by rw [mem x, dedupI_mem, decide_eq_true_eq]).length_eq
  rw [e]
  exact q G H _ (New.refl t) (.int _)
end
end PL

set_option maxRecDepth 100000
namespace PL
open PySem PySem.Spec PyProof.Rows L2

/-! ### all, any, sum, max, min, abs, int -/
def boolsOf : List D → Option (List Bool)
  | [] => some []
  | .bool i :: ds => (match boolsOf ds with
    | some r => some (i :: r)
    | none => none)
  | _ :: _ => none
def gAll : List Sl → Option Rf
  | [s] => (match asL s with
    | some ds => (match boolsOf ds with
      | some bs => some (.im (.bool (bs.all id)))
      | none => none)
    | none => none)
  | _ => none
def gAny : List Sl → Option Rf
  | [s] => (match asL s with
    | some ds => (match boolsOf ds with
      | some bs => some (.im (.bool (bs.any id)))
      | none => none)
    | none => none)
  | _ => none
def gSum : List Sl → Option Rf
  | [s] => (match asL s with
    | some ds => (match intsOf ds with
      | some ns => some (.im (.int ns.sum))
      | none => none)
    | none => none)
  | _ => none
def maxI : List Int → Int
  | [] => 0
  | [a] => a
  | a :: r => if maxI r ≤ a then a else maxI r
def minI : List Int → Int
  | [] => 0
  | [a] => a
  | a :: r => if a ≤ minI r then a else minI r
theorem maxI_ok : ∀ {l : List Int}, l ≠ [] → maxI l ∈ l ∧ ∀ y ∈ l, y ≤ maxI l
  | [], h => absurd rfl h
  | [a], _ => by unfold maxI; simp
  | a :: b :: r, _ => by
    obtain ⟨h1, h2⟩ := maxI_ok (l := b :: r) (by simp)
    unfold maxI
    split
    · rename_i q
      exact ⟨List.mem_cons_self, fun y hy => (List.mem_cons.mp hy).elim (fun e => by omega) fun m => Int.le_trans (h2 y m) q⟩
    · exact ⟨List.mem_cons_of_mem _ h1, fun y hy => (List.mem_cons.mp hy).elim (fun e => by omega) fun m => h2 y m⟩
theorem minI_ok : ∀ {l : List Int}, l ≠ [] → minI l ∈ l ∧ ∀ y ∈ l, minI l ≤ y
  | [], h => absurd rfl h
  | [a], _ => by unfold minI; simp
  | a :: b :: r, _ => by
    obtain ⟨h1, h2⟩ := minI_ok (l := b :: r) (by simp)
    unfold minI
    split
    · rename_i q
      exact ⟨List.mem_cons_self, fun y hy => (List.mem_cons.mp hy).elim (fun e => by omega) fun m => Int.le_trans q (h2 y m)⟩
    · exact ⟨List.mem_cons_of_mem _ h1, fun y hy => (List.mem_cons.mp hy).elim (fun e => by omega) fun m => h2 y m⟩
def gMax : List Sl → Option Rf
  | [.im (.int i), .im (.int j)] => some (.im (.int (if j > i then j else i)))
  | [s] => (match asL s with
    | some ds => (match intsOf ds with
      | some ns => if ns = [] then none else some (.im (.int (maxI ns)))
      | none => none)
    | none => none)
  | _ => none
def gMin : List Sl → Option Rf
  | [.im (.int i), .im (.int j)] => some (.im (.int (if j < i then j else i)))
  | [s] => (match asL s with
    | some ds => (match intsOf ds with
      | some ns => if ns = [] then none else some (.im (.int (minI ns)))
      | none => none)
    | none => none)
  | _ => none
def gAbs : List Sl → Option Rf
  | [.im (.int i)] => some (.im (.int (if i < 0 then -i else i)))
  | _ => none
def gInt : List Sl → Option Rf
  | [.im (.int i)] => some (.im (.int i))
  | [.im (.bool k)] => some (.im (.int (if k then 1 else 0)))
  | _ => none
section
variable {X : Cx} {W : WX} {B : Bs} {a b c e ei tg : Expr} {es : List Expr} {ma mb mc m mi : M Rf} {ms : M (List Rf)} {p p1 p2 pos apos cpos tpos : Pos} {np : Nat} {x : Str}
theorem boolsOf_ok {mg : MG} {G : AP} {H : Hp} : ∀ {vs : List V} {ds : List D} {bs : List Bool}, DnA mg G H vs ds → boolsOf ds = some bs → vs = bs.map V.bl
  | _, [], _, h, e => by cases e; cases h; rfl
  | _, d :: ds, bs, h, e => by
    cases d <;> first | (cases e; done) | skip
    rename_i i
    have e : (match boolsOf ds with
      | some r => some (i :: r)
      | none => none) = some bs := e
    split at e
    · rename_i r hr
      cases e
      cases h with
      | cons a b =>
        have a : Dn mg G H _ (.bool i) := a
        cases a
        rw [boolsOf_ok b hr]; rfl
    · cases e
theorem ok_all (hc : X.calm = true) : CallOk X (.builtin "all") gAll := by
  refine ⟨_, cr_all hc, fun G H xs ss z Q t lb hs hz q => ?_⟩
  unfold gAll at hz
  split at hz
  · split at hz
    · rename_i ds he
      split at hz
      · rename_i bs hb
        cases hz
        cases hs with
        | cons h r =>
          cases r
          obtain ⟨a, us, rfl, h1, d1⟩ := h.asL he
          obtain rfl := boolsOf_ok d1 hb
          exact ⟨a, bs, rfl, .of h1, q G H _ (New.refl t) (.bl _)⟩
      · cases hz
    · cases hz
  · cases hz
theorem ok_any (hc : X.calm = true) : CallOk X (.builtin "any") gAny := by
  refine ⟨_, cr_any hc, fun G H xs ss z Q t lb hs hz q => ?_⟩
  unfold gAny at hz
  split at hz
  · split at hz
    · rename_i ds he
      split at hz
      · rename_i bs hb
        cases hz
        cases hs with
        | cons h r =>
          cases r
          obtain ⟨a, us, rfl, h1, d1⟩ := h.asL he
          obtain rfl := boolsOf_ok d1 hb
          exact ⟨a, bs, rfl, .of h1, q G H _ (New.refl t) (.bl _)⟩
      · cases hz
    · cases hz
  · cases hz
theorem ok_sum (hc : X.calm = true) : CallOk X (.builtin "sum") gSum := by
  refine ⟨_, cr_sum hc, fun G H xs ss z Q t lb hs hz q => ?_⟩
  unfold gSum at hz
  split at hz
  · split at hz
    · rename_i ds he
      split at hz
      · rename_i bs hb
        cases hz
        cases hs with
        | cons h r =>
          cases r
          obtain ⟨a, us, rfl, h1, d1⟩ := h.asL he
          obtain rfl := intsOf_ok d1 hb
          exact ⟨a, bs, rfl, .of h1, q G H _ (New.refl t) (.int _)⟩
      · cases hz
    · cases hz
  · cases hz
theorem ok_max (hc : X.calm = true) : CallOk X (.builtin "max") gMax := by
  refine ⟨_, (call_max2 hc).or (cr_max hc), fun G H xs ss z Q t lb hs hz q => ?_⟩
  unfold gMax at hz
  split at hz
  · rename_i i j
    cases hz
    cases hs with
    | cons h r =>
      cases r with
      | cons h2 r =>
        cases r
        obtain rfl := int_of h
        obtain rfl := int_of h2
        exact .inl ⟨i, j, rfl, q G H _ (New.refl t) (.int _)⟩
  · split at hz
    · rename_i ds he
      split at hz
      · rename_i ns hb
        split at hz
        · cases hz
        · rename_i hne
          cases hz
          cases hs with
          | cons h r =>
            cases r
            obtain ⟨a, us, rfl, h1, d1⟩ := h.asL he
            obtain rfl := intsOf_ok d1 hb
            obtain ⟨m1, m2⟩ := maxI_ok hne
            refine .inr ⟨a, ns, rfl, .of h1, List.length_pos_iff.mpr hne, fun m k1 k2 => ?_⟩
            have e : m = maxI ns := by
              have := m2 m k1
              have := k2 _ m1
              omega
            rw [e]
            exact q G H _ (New.refl t) (.int _)
      · cases hz
    · cases hz
  · cases hz
theorem ok_min (hc : X.calm = true) : CallOk X (.builtin "min") gMin := by
  refine ⟨_, (call_min2 hc).or (cr_min hc), fun G H xs ss z Q t lb hs hz q => ?_⟩
  unfold gMin at hz
  split at hz
  · rename_i i j
    cases hz
    cases hs with
    | cons h r =>
      cases r with
      | cons h2 r =>
        cases r
        obtain rfl := int_of h
        obtain rfl := int_of h2
        exact .inl ⟨i, j, rfl, q G H _ (New.refl t) (.int _)⟩
  · split at hz
    · rename_i ds he
      split at hz
      · rename_i ns hb
        split at hz
        · cases hz
        · rename_i hne
          cases hz
          cases hs with
          | cons h r =>
            cases r
            obtain ⟨a, us, rfl, h1, d1⟩ := h.asL he
            obtain rfl := intsOf_ok d1 hb
            obtain ⟨m1, m2⟩ := minI_ok hne
            refine .inr ⟨a, ns, rfl, .of h1, List.length_pos_iff.mpr hne, fun m k1 k2 => ?_⟩
            have e : m = minI ns := by
              have := m2 m k1
              have := k2 _ m1
              omega
            rw [e]
            exact q G H _ (New.refl t) (.int _)
      · cases hz
    · cases hz
  · cases hz
theorem ok_abs : CallOk X (.builtin "abs") gAbs := by
  refine ⟨_, call_abs, fun G H xs ss z Q t lb hs hz q => ?_⟩
  unfold gAbs at hz
  split at hz
  · rename_i i
    cases hz
    cases hs with
    | cons h r =>
      cases r
      obtain rfl := int_of h
      exact ⟨i, rfl, q G H _ (New.refl t) (.int _)⟩
  · cases hz
theorem ok_int : CallOk X (.type "int") gInt := by
  refine ⟨_, call_int1, fun G H xs ss z Q t lb hs hz q => ?_⟩
  unfold gInt at hz
  split at hz
  · rename_i i
    cases hz
    cases hs with
    | cons h r =>
      cases r
      obtain rfl := int_of h
      exact .inl ⟨i, rfl, q G H _ (New.refl t) (.int _)⟩
  · rename_i k
    cases hz
    cases hs with
    | cons h r =>
      cases r
      have h : Dn X.ct G H _ (.bool k) := h
      cases h
      exact .inr ⟨k, rfl, q G H _ (New.refl t) (.int _)⟩
  · cases hz

/-! ### isinstance(e, T) -/
def tyOf : Sl → Option String
  | .im .none => some "NoneType"
  | .im (.bool _) => some "bool"
  | .im (.int _) => some "int"
  | .im (.str _) => some "str"
  | .im (.list _) => some "list"
  | .im (.tuple _) => some "tuple"
  | .ol _ => some "list"
  | .odk _ => some "dict"
  | .odt _ => some "dict"
  | _ => none
def isT (T t : String) : Bool := T == t || (T == "int" && t == "bool")
def mIs (T : String) (m : M Rf) : M Rf := m.bind fun x env => match view env x with
  | some s => (match tyOf s with
    | some t => .ok (.im (.bool (isT T t))) env
    | none => .stuck)
  | none => .stuck
theorem isT_ok : ∀ T ∈ ["int", "bool", "tuple", "str", "list", "dict"], ∀ t ∈ ["NoneType", "bool", "int", "str", "list", "tuple", "dict"], kitB t T = some (isT T t) := by decide +kernel
theorem tyOf_mem {s : Sl} {t : String} (h : tyOf s = some t) : t ∈ ["NoneType", "bool", "int", "str", "list", "tuple", "dict"] := by
  unfold tyOf at h
  split at h <;> first | (cases h; done) | (cases h; simp)
theorem tyX_of {mg : MG} {G : AP} {H : Hp} {v : V} {s : Sl} {t : String} (h : VR mg G H v s) (e : tyOf s = some t) : TyX mg.K H v (.type t) := by
  cases s with
  | no => cases e
  | ol ds => cases e; obtain ⟨a, rfl, xs, h1, _⟩ := h; exact .base (.lst h1)
  | odk ds => cases e; obtain ⟨a, rfl, xs, h1, _⟩ := h; exact .base (.dK h1)
  | odt ds => cases e; obtain ⟨a, rfl, xs, h1, _⟩ := h; exact .base (.dT h1)
  | im d =>
    have h : Dn mg G H v d := h
    cases h with
    | non => cases e; exact .base .non
    | bl b => cases e; exact .base (.bl b)
    | int i => cases e; exact .base (.int i)
    | str x => cases e; exact .base (.str x)
    | lst g r a => cases e; exact .base (.lst r)
    | tup g r a => cases e; exact .base (.tup r)
    | scr g r a => cases e
    | lk k a => cases e
    | fn h => cases e
    | dk g r k a z => cases e
    | dt g r k a z => cases e
theorem xisi {T : String} {n : Str} (hm1 : X.mg "isinstance" = none) (hm2 : X.mg n = none) (h : XE X W B a m) (hv : bootBuiltins n = some (.type T)) (hT : T ∈ ["int", "bool", "tuple", "str", "list", "dict"] := by decide) (hg1 : Gl X "isinstance" := by rfl) (hg2 : Gl X n := by rfl) (hn : n ≠ "__name__" := by decide) (hd : (n == ("__debug__" : Str)) = false := by decide)
    (na : starEach [a, .Name n p2] X.env = (false, eval a X.env) :: starEach [.Name n p2] X.env := by rfl) (nb : starEach [.Name n p2] X.env = (false, eval (.Name n p2) X.env) :: starEach [] X.env := by rfl) (hpl : (backTo pos (starEach [.Name n p2] X.env)).any (·.1) = false := by rfl) :
    XE X W B (.Call (.Name "isinstance" p) [a, .Name n p2] [] pos) (mIs T m) := by
  obtain ⟨⟨t, pt, it⟩⟩ := h
  refine .by_ (pe_callB call_isi hg1 hm1 PyProof.Rows.boot_isinstance (pa_cons pt (pa_cons (pe_bltn (v := .ty T) hg2 hm2 hv rfl hn hd) pa_nil nb) na) (he := na) (hpl := hpl)) fun G H σ env Q E p => ?_
  refine it.run E Ext.refl p fun v x env1 G1 H1 _ E1 r1 _ x1 p => ?_
  split at p
  · rename_i s hs
    split at p
    · rename_i ty hty
      exact ⟨v, .ty T, .type ty, .type T, isT T ty, rfl, .ty T, tyX_of (r1.view E1 hs) hty, kit_ty (isT_ok T hT ty (tyOf_mem hty)), p G1 H1 _ E1 (.bl _) x1⟩
    · exact p.elim
  · exact p.elim

/-! ### list(range(..)), tuple(range(..)) -/
def mRgL (f : List D → Rf) (ma mb : M Rf) : M Rf := ma.bind fun x => mb.bind fun y env => match x, y with
  | .im (.int i), .im (.int j) => if (-1000000 ≤ i ∧ i ≤ 1000000) ∧ (-1000000 ≤ j ∧ j ≤ 1000000) then .ok (f (rangeD i (j - i).toNat)) env else .stuck
  | _, _ => .stuck
def rfL (ds : List D) : Rf := .tmp (.ol ds)
def rfT (ds : List D) : Rf := .im (.tuple ds)
theorem dnA_rg {mg : MG} {G : AP} {H : Hp} {i j : Int} : DnA mg G H (rgV i j) (rangeD i (j - i).toNat) := by
  unfold rgV rangeD
  generalize List.range (j - i).toNat = l
  induction l with
  | nil => exact .nil
  | cons n r ih => exact .cons (.int _) ih
theorem rg_ok {i j : Int} (h : (-1000000 ≤ i ∧ i ≤ 1000000) ∧ (-1000000 ≤ j ∧ j ≤ 1000000)) : RgOk i j := ⟨by omega, by omega, by omega, by omega, by omega⟩
theorem imp_rg {f : List D → Rf} {o : List V → HO} {t u : TE} (it : Imp B X.ct W (rV X.ct) t ma) (iu : Imp B X.ct W (rV X.ct) u mb)
    (hf : ∀ (G : AP) (H : Hp) (vs : List V) (ds : List D) (p : Addr), (∀ b, G b → H b ≠ none) → DnA X.ct G H vs ds → vs.length ≤ sizeLine → H p = none → ∃ G', New G H G' (upd H p (o vs)) ∧ ZR X.ct H G' (upd H p (o vs)) (.ref p) (f ds)) :
    Imp B X.ct W (rV X.ct) (fun σ H Q => tRg2 t u σ H fun a b H1 => RgOk a b ∧ ∀ q, H1 q = none → Q (.ref q) (upd H1 q (o (rgV a b)))) (mRgL f ma mb) := fun G H σ env Q E q => by
  refine it.run E Ext.refl q fun v x env1 G1 H1 hm1 E1 r1 _ x1 q => ?_
  refine iu.run E1 x1 q fun v' y env2 G2 H2 hm2' E2 r2 e2 x2 q => ?_
  split at q
  · rename_i i j _
    split at q
    · rename_i hj
      obtain rfl := int_of (show Dn X.ct G1 H1 v (.int i) from r1)
      obtain rfl := int_of (show Dn X.ct G2 H2 v' (.int j) from r2)
      refine ⟨i, j, rfl, rfl, rg_ok hj, fun p hp => ?_⟩
      obtain ⟨G3, n, zr⟩ := hf G2 H2 (rgV i j) (rangeD i (j - i).toNat) p E2.gt dnA_rg (by rw [rgV_length]; exact small_le (by omega)) hp
      exact q _ _ _ (E2.new n) ((ZR.rf E2 zr).back x2.e2) (x2.trans n.ext)
    · exact q.elim
  · exact q.elim
theorem xlistRg2 (hc : X.calm = true) (hm1 : X.mg "list" = none) (hm2 : X.mg "range" = none) (ha : XE X W B a ma) (hb : XE X W B b mb) (hg1 : Gl X "list" := by rfl) (hg2 : Gl X "range" := by rfl)
    (na : starEach [a, b] X.env = (false, eval a X.env) :: starEach [b] X.env := by rfl) (nb : starEach [b] X.env = (false, eval b X.env) :: starEach [] X.env := by rfl) (hp : (backTo cpos (starEach [b] X.env)).any (·.1) = false := by rfl)
    (nc : starEach [.Call (.Name "range" p2) [a, b] [] cpos] X.env = (false, eval (.Call (.Name "range" p2) [a, b] [] cpos) X.env) :: starEach [] X.env := by rfl) :
    XE X W B (.Call (.Name "list" p) [.Call (.Name "range" p2) [a, b] [] cpos] [] pos) (mRgL rfL ma mb) := by
  obtain ⟨⟨t, pt, it⟩⟩ := ha
  obtain ⟨⟨u, pu, iu⟩⟩ := hb
  exact .by_ (pe_listRg hc hg1 hm1 (prg_2 hg2 hm2 pt pu na nb hp) nc) (imp_rg it iu fun G H vs ds p t d l hp => by
    obtain ⟨n, zr⟩ := new_lst t d l hp
    exact ⟨_, n, zr⟩)
theorem xtupRg2 (hc : X.calm = true) (hm1 : X.mg "tuple" = none) (hm2 : X.mg "range" = none) (ha : XE X W B a ma) (hb : XE X W B b mb) (hg1 : Gl X "tuple" := by rfl) (hg2 : Gl X "range" := by rfl)
    (na : starEach [a, b] X.env = (false, eval a X.env) :: starEach [b] X.env := by rfl) (nb : starEach [b] X.env = (false, eval b X.env) :: starEach [] X.env := by rfl) (hp : (backTo cpos (starEach [b] X.env)).any (·.1) = false := by rfl)
    (nc : starEach [.Call (.Name "range" p2) [a, b] [] cpos] X.env = (false, eval (.Call (.Name "range" p2) [a, b] [] cpos) X.env) :: starEach [] X.env := by rfl) :
    XE X W B (.Call (.Name "tuple" p) [.Call (.Name "range" p2) [a, b] [] cpos] [] pos) (mRgL rfT ma mb) := by
  obtain ⟨⟨t, pt, it⟩⟩ := ha
  obtain ⟨⟨u, pu, iu⟩⟩ := hb
  exact .by_ (pe_tupRg hc hg1 hm1 (prg_2 hg2 hm2 pt pu na nb hp) nc) (imp_rg it iu fun G H vs ds p t d l hp => by
    obtain ⟨n, dn⟩ := new_tup t d l hp
    exact ⟨_, n, dn⟩)

/-! ### zip -/
def zipD : List D → List D → List D
  | a :: r, b :: s => .tuple [a, b] :: zipD r s
  | _, _ => []
theorem zipD_get : ∀ {xs ys : List D} {i : Nat} {x y : D}, xs[i]? = some x → ys[i]? = some y → (zipD xs ys)[i]? = some (.tuple [x, y])
  | [], _, _, _, _, h, _ => by simp at h
  | _ :: _, [], _, _, _, _, h => by simp at h
  | a :: r, b :: s, 0, x, y, h, k => by simp at h k; subst h k; rfl
  | a :: r, b :: s, i + 1, x, y, h, k => by
    unfold zipD
    simpa using zipD_get (xs := r) (ys := s) (i := i) (by simpa using h) (by simpa using k)
theorem zipD_len : ∀ {xs ys : List D}, (zipD xs ys).length = min xs.length ys.length
  | [], ys => by unfold zipD; simp
  | _ :: _, [] => by unfold zipD; simp
  | a :: r, b :: s => by unfold zipD; rw [List.length_cons, zipD_len, List.length_cons, List.length_cons]; omega
def seqD : D → Option (Bool × List D)
  | .list ds => some (true, ds)
  | .tuple ds => some (false, ds)
  | _ => none
def mZip (np : Nat) (ma mb : M Rf) : M (List D) := (mCons ma (mCons mb mNil)).bind fun xs => (toIs np xs).bind fun ds env => match ds with
  | [d, e] => (match seqD d, seqD e with
    | some (k, us), some (l, ws) => if k = l then .ok (zipD us ws) env else .stuck
    | _, _ => .stuck)
  | _ => .stuck
theorem walks_pair {mg : MG} {G1 : AP} {H1 : Hp} {xs ys : List V} {us ws : List D} {J : It} (d1 : DnA mg G1 H1 xs us) (d2 : DnA mg G1 H1 ys ws) (l1 : xs.length ≤ sizeLine)
    (hgo : ∀ G H i x y, Fz G1 H1 G H → xs[i]? = some x → ys[i]? = some y → J.go i H) (hst : ∀ G H i, Fz G1 H1 G H → (xs.length ≤ i ∨ ys.length ≤ i) → J.stop i H)
    (hy : ∀ G H i v H', Fz G1 H1 G H → J.yld i H v H' → ∃ T x y, v = .ref T ∧ H T = none ∧ H' = upd H T (.tup [x, y]) ∧ xs[i]? = some x ∧ ys[i]? = some y) : Walks mg G1 H1 J (zipD us ws) := by
  have e1 := d1.length
  have e2 := d2.length
  refine ⟨fun G H i f hi => ?_, fun G H i v H' f gt _ hi y => ?_, fun G H i f hi => ?_, by rw [zipD_len]; omega⟩
  · rw [zipD_len] at hi
    exact hgo G H i _ _ f (List.getElem?_eq_getElem (by omega)) (List.getElem?_eq_getElem (by omega))
  · obtain ⟨T, x, y', rfl, hT, rfl, hx, hy'⟩ := hy G H i v H' f y
    obtain ⟨u, hu, du⟩ := d1.get' hx
    obtain ⟨w, hw, dw⟩ := d2.get' hy'
    obtain ⟨n, dn⟩ := new_tup gt (DnA.cons (du.keep f) (.cons (dw.keep f) .nil)) (by show 2 ≤ sizeLine; decide) hT
    exact ⟨_, zipD_get hu hw, n, dn⟩
  · rw [zipD_len] at hi
    exact hst G H i f (by omega)
theorem xi_zip {elts : List Expr} {kk : Nat} (hnp : B.np ≤ np) (hm : X.mg "zip" = none) (ha : XE X W B a ma) (hb : XE X W B b mb) (hg : Gl X "zip" := by rfl)
    (hs : starEach [a, b] X.env = (false, eval a X.env) :: starEach [b] X.env := by rfl) (hs2 : starEach [b] X.env = (false, eval b X.env) :: starEach [] X.env := by rfl) (hpl : (backTo pos (starEach [b] X.env)).any (·.1) = false := by rfl) :
    XI X W B (.Tuple elts kk tpos) (.Call (.Name "zip" p) [a, b] [] pos) (mZip np ma mb) := by
  obtain ⟨⟨t, pt, it⟩⟩ := xa ha (xa hb xa0 hs2) hs
  refine ⟨⟨_, RZ.pi_zipA hg hm pt hs hpl, fun G H σ env R E q => ?_⟩⟩
  refine it.run E Ext.refl q fun vs xs env1 G1 H1 _ E1 r1 _ x1 q => ?_
  obtain ⟨ds, env2, h2, q⟩ := Post.inv q toIs_nox
  obtain ⟨G2, E2, dn, x2, _⟩ := toIs_ok E.gt E.f2 hnp E1 x1 r1 h2
  split at q
  · rename_i d e
    split at q
    · rename_i k us l ws hd he
      split at q
      · rename_i hk
        subst hk
        cases dn with
        | cons n1 r =>
          cases r with
          | cons n2 r =>
            cases r
            cases k with
            | true =>
              have ed : d = .list us := by cases d <;> first | (cases hd; rfl) | (cases hd; done)
              have ee : e = .list ws := by cases e <;> first | (cases he; rfl) | (cases he; done)
              subst ed ee
              cases n1 with
              | lst g1 h1 d1 =>
                cases n2 with
                | lst g2 h2 d2 =>
                  rename_i A xs' B' ys'
                  have sA : ∀ G H, Fz G2 H1 G H → SqL X.K H A xs' := fun G H f => .of (f _ _ g1 h1).1
                  have sB : ∀ G H, Fz G2 H1 G H → SqL X.K H B' ys' := fun G H f => .of (f _ _ g2 h2).1
                  refine ⟨A, B', xs', ys', rfl, .inl ⟨sA _ _ Fz.refl, sB _ _ Fz.refl, q G2 H1 _ E2 (walks_pair d1 d2 (E2.lb.1 A _ (.inr (.inl h1))) (fun G H i x y f hx hy => ⟨xs', ys', x, y, sA G H f, sB G H f, hx, hy⟩) (fun G H i f h => ⟨xs', ys', sA G H f, sB G H f, h⟩) fun G H i v H' f y => ?_) x2⟩⟩
                  obtain ⟨T, x, y, e1, e2, e3, e4, e5⟩ := y
                  exact ⟨T, x, y, e1, e2, e3, e4 _ (sA G H f), e5 _ (sB G H f)⟩
            | false =>
              have ed : d = .tuple us := by cases d <;> first | (cases hd; rfl) | (cases hd; done)
              have ee : e = .tuple ws := by cases e <;> first | (cases he; rfl) | (cases he; done)
              subst ed ee
              cases n1 with
              | tup g1 h1 d1 =>
                cases n2 with
                | tup g2 h2 d2 =>
                  rename_i A xs' B' ys'
                  have sA : ∀ G H, Fz G2 H1 G H → SqT X.K H A xs' := fun G H f => .of (f _ _ g1 h1).1
                  have sB : ∀ G H, Fz G2 H1 G H → SqT X.K H B' ys' := fun G H f => .of (f _ _ g2 h2).1
                  refine ⟨A, B', xs', ys', rfl, .inr ⟨sA _ _ Fz.refl, sB _ _ Fz.refl, q G2 H1 _ E2 (walks_pair d1 d2 (E2.lb.1 A _ (.inl h1)) (fun G H i x y f hx hy => ⟨xs', ys', x, y, sA G H f, sB G H f, hx, hy⟩) (fun G H i f h => ⟨xs', ys', sA G H f, sB G H f, h⟩) fun G H i v H' f y => ?_) x2⟩⟩
                  obtain ⟨T, x, y, e1, e2, e3, e4, e5⟩ := y
                  exact ⟨T, x, y, e1, e2, e3, e4 _ (sA G H f), e5 _ (sB G H f)⟩
      · exact q.elim
    · exact q.elim
  · exact q.elim

/-! ### raise X('m') -/
theorem xs_raise {C : Addr} {bmB : List Value} {Bn newId initId : String} {x m : Str} {j : Nat} (hc : X.calm = true) (tk : Takes X W) (F : ExcBaseFacts Bn newId initId bmB) (q : PySem.W.excIn X.K C bmB newId = true) (gC : X.mg x = some (.ref C)) (kC : PySem.W.keepIn X.K (.ref C) = true) (r : Raises X (.ref C)) (hg : Gl X x)
    (hdb : (x == ("__debug__" : Str)) = false := by decide) : XS X W B (.Raise (some (.Call (.Name x p) [.Constant (.str m) j p2] [] pos)) none cpos) (sRaise x) :=
  ⟨⟨_, ps_raise hc tk (pmk_own F q gC kC r hg hdb), fun G H σ env D E p => p G H σ (.ref C) E Fz.refl gC⟩⟩
end
end PL

set_option maxRecDepth 100000
namespace PL
open PySem PySem.Spec PyProof.Rows L2

/-! ### what the written text asks of a module's names -/
section
variable {P : Program} {w : World} {K : PySem.W.Frag} {mg : Str → Option Value} {base : Heap}
/-- a def of the module -/
structure HasF (K : PySem.W.Frag) (mg : Str → Option Value) (x : Str) (st : Stmt) (ps : List Str) : Prop where
  ex : ∃ f fd, Fun K x x st f fd ∧ mg x = some (.ref f) ∧ PySem.W.keepIn K (.ref f) = true ∧ Binds K fd ps [] ∧ ∀ (s : Shared) (us : List Value), us.length = ps.length → BindsTo s fd ⟨us, []⟩ (ps.zip us)
/-- .. with its plain function -/
structure Cal (P : Program) (w : World) (K : PySem.W.Frag) (mg : Str → Option Value) (base : Heap) (x : Str) (ps : List Str) (k : Nat) (fl : List Bool) (fn : Fn) : Prop where
  ex : ∃ f fd, FnOk P w K mg base (L2.CX P w) k f fd ps (spFn ⟨K, mg⟩ fl fn) ∧ mg x = some (.ref f) ∧ PySem.W.keepIn K (.ref f) = true ∧ Binds K fd ps [] ∧ ∀ (s : Shared) (us : List Value), us.length = ps.length → BindsTo s fd ⟨us, []⟩ (ps.zip us)
/-- an own exception class over ValueError -/
structure HasX (K : PySem.W.Frag) (mg : Str → Option Value) (x : Str) : Prop where
  ex : ∃ C, mg x = some (.ref C) ∧ PySem.W.excIn K C [.type "ValueError", .type "Exception", .type "BaseException", .type "object"] "ValueError.__new__" = true ∧ PySem.W.keepIn K (.ref C) = true ∧ PySem.W.subIn K (.ref C) (.type "BaseException") = some true ∧ PySem.W.typeIn K (.ref C) = some (.type "type")
structure HasI (mg : Str → Option Value) (x : Str) (i : Int) : Prop where
  ex : ∃ t, mg x = some (.int i t)
theorem HasF.mk' {x : Str} {st : Stmt} {ps : List Str} {h : Heap} {f : Addr} {oc : Value} {od an : Option Addr} {osl : Array (Option Value)} {kV doc pm cdv ct : Value} (X : K.In h) (G : h.Ns mainGlobals mg) (a : PySem.W.nsIn K mainGlobals x = some (some (.ref f)))
    (l : K.lookup f = some ⟨oc, od, .func (PySem.W.fnOf x x (defArgs st) (defBody st) (defScope st) .none kV doc pm an cdv ct), osl⟩) (c : PySem.W.codeIn K cdv x = true) (k : PySem.W.keepIn K (.ref f) = true)
    (hb : ∀ (kV doc pm : Value) (an : Option Addr) (cdv ct : Value) (us : List Value), us.length = ps.length → bindArgs (PySem.W.fnOf x x (defArgs st) (defBody st) (defScope st) .none kV doc pm an cdv ct) ⟨us, []⟩ = pure (ps.zip us)) : HasF K mg x st ps :=
  ⟨⟨f, _, fun_mk (st := st) l c k, PySem.W.mg_of X G a, k, (fun_mk (st := st) l c k).binds hb, fun s us hl => .of_eq (hb _ _ _ _ _ _ us hl)⟩⟩
theorem HasX.mk' {x : Str} {h : Heap} {C : Addr} (X : K.In h) (G : h.Ns mainGlobals mg) (a : PySem.W.nsIn K mainGlobals x = some (some (.ref C))) (q : PySem.W.excIn K C [.type "ValueError", .type "Exception", .type "BaseException", .type "object"] "ValueError.__new__" = true)
    (k : PySem.W.keepIn K (.ref C) = true) (b : PySem.W.subIn K (.ref C) (.type "BaseException") = some true) (t : PySem.W.typeIn K (.ref C) = some (.type "type")) : HasX K mg x := ⟨⟨C, PySem.W.mg_of X G a, q, k, b, t⟩⟩
theorem HasI.mk' {x : Str} {h : Heap} {i : Int} {t : Tok} (X : K.In h) (G : h.Ns mainGlobals mg) (a : PySem.W.nsIn K mainGlobals x = some (some (.int i t))) : HasI mg x i := ⟨⟨t, PySem.W.mg_of X G a⟩⟩
/-- a def's plain function, from its body -/
theorem cal {x : Str} {st : Stmt} {N ps : List Str} {k n : Nat} {fl : List Bool} {ms : MS} (h : HasF K mg x st ps) (S : FnScope N ps (defScope st)) (hfl : fl.length = ps.length) (hn : N.length = n)
    (body : ∀ (f : Addr) (cdv : Value) (A : Around) (outer : List Env) (s : Shared) (H : Hp) (E : XK) (B : Bs), Room k (A.deeper (envOfC x (defScope st) s.heap.objs.size f cdv)) → B.np = fl.length →
      XSs (cxOf (L2.CX P w) P w K mg base N x (defScope st) f cdv A outer s H E) (fun cls d _ H => E cls d H) B (defBody st) ms) : Cal P w K mg base x ps (k + 1) fl (fnOf fl n ms) := by
  subst hn
  obtain ⟨f, fd, F, m, kp, b, bt⟩ := h.ex
  exact ⟨⟨f, fd, fn_ok F S hfl (body f), m, kp, b, bt⟩⟩
end
section
variable {X : Cx} {W : WX} {B : Bs} {a b c e : Expr} {es : List Expr} {m : M Rf} {ms : M (List Rf)} {p p2 pos cpos : Pos} {np k kk : Nat} {x : Str} {ps : List Str} {fl : List Bool} {fn : Fn}
theorem xcl (C : Cal X.prog X.w X.K X.mg X.base x ps k fl fn) (hr : Room kk X.A) (hk : k ≤ kk) (tk : Takes X W) (hnp : B.np ≤ np) (ha : XA X W B (e :: es) ms) (hg : Gl X x := by rfl) (hdb : (x == ("__debug__" : Str)) = false := by decide)
    (he : starEach (e :: es) X.env = (false, eval e X.env) :: starEach es X.env := by rfl) (hpl : (backTo pos (starEach es X.env)).any (·.1) = false := by rfl) : XE X W B (.Call (.Name x p) (e :: es) [] pos) (mCall np fl fn ms) := by
  obtain ⟨f, fd, F, hm, kp, hb, _⟩ := C.ex
  exact xcall F (hr.mono hk) tk hg hm kp hb hnp ha hdb he hpl
theorem xcl0 (C : Cal X.prog X.w X.K X.mg X.base x ps k fl fn) (hr : Room kk X.A) (hk : k ≤ kk) (tk : Takes X W) (hnp : B.np ≤ np) (hg : Gl X x := by rfl) (hdb : (x == ("__debug__" : Str)) = false := by decide) : XE X W B (.Call (.Name x p) [] [] pos) (mCall np fl fn mNil) := by
  obtain ⟨f, fd, F, hm, kp, hb, _⟩ := C.ex
  exact xcall0 F (hr.mono hk) tk hg hm kp hb hnp hdb
theorem xmi {i : Int} (h : HasI X.mg x i) (hg : Gl X x := by rfl) (hd : (x == ("__debug__" : Str)) = false := by decide) : XE X W B (.Name x pos) (mK (.int i)) := by
  obtain ⟨t, q⟩ := h.ex
  exact xgi hg q hd
theorem xdf (C : Cal X.prog X.w X.K X.mg X.base x ps k fl fn) (hg : Gl X x := by rfl) (hd : (x == ("__debug__" : Str)) = false := by decide) : XE X W B (.Name x pos) (mK (fnD x)) := by
  obtain ⟨f, fd, F, hm, kp, hb, _⟩ := C.ex
  exact xgf hg hm hd
theorem xrs {t : Str} {j : Nat} (h : HasX X.K X.mg x) (hc : X.calm = true) (tk : Takes X W) (hg : Gl X x := by rfl) (hdb : (x == ("__debug__" : Str)) = false := by decide) : XS X W B (.Raise (some (.Call (.Name x p) [.Constant (.str t) j p2] [] pos)) none cpos) (sRaise x) := by
  obtain ⟨C, g, q, k, b, t⟩ := h.ex
  exact xs_raise hc tk PySem.F.excBase_ValueError q g k (raises_own b t) hg hdb
theorem hu0 {A : Around} (hr : Room kk A) : A.units < cLine := by have := hr.un; omega
theorem hu64 {A : Around} (hr : Room kk A) : A.units + 64 < cLine := by have := hr.un; omega
theorem hu65 {A : Around} (hr : Room kk A) : A.units + 65 < cLine := by have := hr.un; omega
end

/-! ### the law -/
/-- a script -/
def scrS (ns : List Int) : Sl := .im (.dict [(.none, .list (ns.map .int))])
def Keeps (fn : Fn) : Prop := ∀ ns : List Int, ns.length ≤ 63 → ∃ outs, fn [scrS ns] = .ok (.im (.bool true)) outs
def spTop (K : PySem.W.Frag) : Sp := fun vs H Q _ => ∃ (a : Addr) (ns : List Int), vs = [.ref a] ∧ SqL K H a (ns.map V.int) ∧ ns.length ≤ 63 ∧ Only H ∧ ∀ H', Q (.bl true) H'
theorem lb_of {P : Program} {w : World} {H : Hp} {h : Heap} (x : HOk P w H h) : LB (fun _ => False) H := ⟨fun a xs q => by
  rcases q with q | q
  · exact (show ObjOk P w H h a (.tup xs) from x a _ q).1
  · exact (show ObjOk P w H h a (.lst xs) from q.ok x).1, fun _ z => z.elim⟩
theorem top_ok {P : Program} {w : World} {K : PySem.W.Frag} {mg : Str → Option Value} {base : Heap} {k : Nat} {f : Addr} {fd : FuncData} {ps : List Str} {fn : Fn} (F : FnOk P w K mg base (L2.CX P w) k f fd ps (spFn ⟨K, mg⟩ [false] fn)) (hp : ps.length = 1) (law : Keeps fn) :
    FnOk P w K mg base (L2.CX P w) k f fd ps (spTop K) := by
  refine ⟨fun vs H Q E ⟨a, ns, e, _⟩ => by rw [e, hp]; rfl, fun A outer s H args us vs Q E hr h0 hb r h => F.run A outer s H args us vs Q E hr h0 hb r ?_⟩
  obtain ⟨a, ns, rfl, hs, hl, ho, q⟩ := h
  obtain ⟨outs, e⟩ := law ns hl
  have dn : Dn ⟨K, mg⟩ (fun _ => False) H (.ref a) (.dict [(.none, .list (ns.map .int))]) := by
    rcases hs with (hs | ⟨o, hs⟩) | hs
    · rcases ho a with z | ⟨o, xs, z⟩
      · rw [z] at hs; cases hs
      · rw [z] at hs; cases hs
    · exact .scr (fun z => z) hs (dnA_ints ns)
    · exact .lk hs (dnA_ints ns)
  refine ⟨rfl, fun _ => False, [scrS ns], fun _ z => z.elim, lb_of h0.hok, .im dn .nil, .nil, ?_⟩
  rw [e]
  intro G' H' v _ rr
  have rr : Dn ⟨K, mg⟩ G' H' v (.bool true) := rr
  cases rr
  exact q H'
theorem walk {l : PySem.W.OpenLaw} {q : Program} {loose : List Str} {XP : (Str → Option Value) → Heap → Prop} {YP : World → Heap → Prop} {d : DefRec} {K : Params → PySem.W.Frag} (k : Nat) (hn : l.most = some 63) (hdf : d.params.defaults = []) (hr : Room k callerA)
    (hY : ∀ (w : World) (h : Heap), YP w h → (K w.params).In h)
    (F : ∀ (w : World) (mg : Str → Option Value) (fa : Addr) (h : Heap), (K w.params).In h → h.Ns mainGlobals mg → mg d.name = some (.ref fa) →
      ∃ fd : FuncData, (∀ (s : Shared) (u : Value), BindsTo s fd ⟨[u], []⟩ [("script", u)]) ∧ ∀ base : Heap, (K w.params).In base → base.Ns mainGlobals mg → FnOk l.prog w (K w.params) mg base (L2.CX l.prog w) k fa fd ["script"] (spTop (K w.params))) :
    PySem.W.WalkO q loose XP YP l.row.toRowW d [] (fun f vs => PySem.call f vs) :=
  L2.walk_of (n := 63) (k := k) (x := "script") (CX := fun w => L2.CX l.prog w) (sp := fun w => spTop (K w.params)) hn (by decide) hdf hr hY F (fun _ H a ns hl ho hs => ⟨a, ns, rfl, hs, hl, ho, fun _ => rfl⟩) fun _ _ _ _ _ z => by
    obtain ⟨_, _, _, _, _, _, _, _, _, _, _, _, h⟩ := z
    exact h
/-- the law's def, from its plain function -/
theorem law_ok {l : PySem.W.OpenLaw} {w : World} {K : PySem.W.Frag} {mg : Str → Option Value} {fa : Addr} {k : Nat} {fn : Fn} (hfa : mg "law" = some (.ref fa)) (law : Keeps fn) (hc : ∃ (f : Addr) (fd : FuncData), mg "law" = some (.ref f) ∧ (∀ (s : Shared) (us : List Value), us.length = (["script"] : List Str).length → BindsTo s fd ⟨us, []⟩ ((["script"] : List Str).zip us)) ∧
    ∀ base : Heap, K.In base → base.Ns mainGlobals mg → FnOk l.prog w K mg base (L2.CX l.prog w) k f fd ["script"] (spFn ⟨K, mg⟩ [false] fn)) :
    ∃ fd : FuncData, (∀ (s : Shared) (u : Value), BindsTo s fd ⟨[u], []⟩ [("script", u)]) ∧ ∀ base : Heap, K.In base → base.Ns mainGlobals mg → FnOk l.prog w K mg base (L2.CX l.prog w) k fa fd ["script"] (spTop K) := by
  obtain ⟨f, fd, m, bt, F⟩ := hc
  rw [hfa] at m
  cases m
  exact ⟨fd, fun s u => bt s [u] rfl, fun base h1 h2 => top_ok (F base h1 h2) rfl law⟩
/-- a block's names, by a test -/
def blkB (N : List Str) (sc scope : Scope) (own : List (Str × Nat)) : Bool :=
  decide (scope.kind = .function) && scope.names.all (fun y => decide (scope.names.lookup y.1 = some y.2)) && own.all (fun p => decide (N[p.2]? = some p.1)) &&
    scope.names.all (fun y => decide (y.2 = .free → sc.names.lookup y.1 = some .cell ∨ sc.names.lookup y.1 = some .free)) && scope.names.all (fun y => decide (y.2 = .local ∨ y.2 = .cell → y.1 ∈ own.map (·.1) ∨ y.1 ∉ N))
theorem blkOk_of {N : List Str} {sc scope : Scope} {own : List (Str × Nat)} (h : blkB N sc scope own = true) : BlkOk N sc scope own := by
  unfold blkB at h
  rw [Bool.and_eq_true, Bool.and_eq_true, Bool.and_eq_true, Bool.and_eq_true, List.all_eq_true, List.all_eq_true, List.all_eq_true, List.all_eq_true] at h
  obtain ⟨⟨⟨⟨h1, h2⟩, h3⟩, h4⟩, h5⟩ := h
  exact ⟨of_decide_eq_true h1, fun y hy => of_decide_eq_true (h2 y hy), fun p hp => of_decide_eq_true (h3 p hp), fun y hy => of_decide_eq_true (h4 y hy), fun y hy => of_decide_eq_true (h5 y hy)⟩
theorem takesF {X : Cx} : Takes X WF := fun _ _ x => by
  obtain ⟨_, _, _, _, _, _, _, _, _, _, _, _, _, _, _, _, z⟩ := x
  exact z.elim
theorem cal_law {P : Program} {w : World} {K : PySem.W.Frag} {mg : Str → Option Value} {x : Str} {st : Stmt} {N ps : List Str} {k n : Nat} {fl : List Bool} {ms : MS} (h : HasF K mg x st ps) (S : FnScope N ps (defScope st)) (hfl : fl.length = ps.length) (hn : N.length = n)
    (body : ∀ (base : Heap) (f : Addr) (cdv : Value) (A : Around) (outer : List Env) (s : Shared) (H : Hp) (E : XK) (B : Bs), Room k (A.deeper (envOfC x (defScope st) s.heap.objs.size f cdv)) → B.np = fl.length →
      XSs (cxOf (L2.CX P w) P w K mg base N x (defScope st) f cdv A outer s H E) (fun cls d _ H => E cls d H) B (defBody st) ms) :
    ∃ (f : Addr) (fd : FuncData), mg x = some (.ref f) ∧ (∀ (s : Shared) (us : List Value), us.length = ps.length → BindsTo s fd ⟨us, []⟩ (ps.zip us)) ∧ ∀ base : Heap, K.In base → base.Ns mainGlobals mg → FnOk P w K mg base (L2.CX P w) (k + 1) f fd ps (spFn ⟨K, mg⟩ fl (fnOf fl n ms)) := by
  subst hn
  obtain ⟨f, fd, F, m, kp, b, bt⟩ := h.ex
  exact ⟨f, fd, m, bt, fun base _ _ => fn_ok F S hfl (body base f)⟩
end PL

set_option maxRecDepth 100000
namespace L2
open PySem PySem.Spec PyProof.Rows
/-- sorted(xs), the items alike data -/
def rSortedG (K : PySem.W.Frag) : List V → Hp → VK → Prop := fun vs H Q => ∃ (a : Addr) (xs : List V) (ds : List PyData), vs = [V.ref a] ∧ SqL K H a xs ∧ DpAll K H xs ds ∧ PySem.W.AllAlike ds ∧ PySem.W.Sortable ds ∧ (∀ d ∈ ds, d.depth ≤ 64) ∧
  ∀ p : Addr, H p = none → Q (.ref p) (upd H p (.lst (((xs.zip ds).mergeSort (PySem.W.dataLe false Prod.snd)).map Prod.fst)))
section
variable {X : Cx} {pins : List (Addr × Obj)} {s : Shared} {σ : St} {H : Hp}
theorem each_zip (I : Inv X pins σ H s) : ∀ {xs : List V} {us : List Value} {ds : List PyData}, Vals xs us → DpAll X.K H xs ds → PySem.W.EachIs (fun u (b : V × PyData) => RelV b.1 u) us (xs.zip ds) ∧ PySem.W.EachIs (fun u (b : V × PyData) => ∃ as, Reads s.heap u b.2 as) us (xs.zip ds) ∧ (xs.zip ds).map Prod.snd = ds ∧ (xs.zip ds).length = xs.length
  | _, _, _, .nil, .nil => ⟨.nil, .nil, rfl, rfl⟩
  | _, _, _, .cons r t, .cons d q => by
    obtain ⟨h1, h2, h3, h4⟩ := each_zip I t q
    exact ⟨.cons r h1, .cons (Dp.reads I _ _ _ d r) h2, by rw [List.zip_cons_cons, List.map_cons, h3], by rw [List.zip_cons_cons, List.length_cons, h4, List.length_cons]⟩
theorem vals_fst : ∀ {ps : List (V × PyData)} {us : List Value}, PySem.W.EachIs (fun u (b : V × PyData) => RelV b.1 u) us ps → Vals (ps.map Prod.fst) us
  | _, _, .nil => .nil
  | _, _, .cons r t => .cons r (vals_fst t)
theorem cr_sortedG (hu : X.A.units + 67 < cLine) : CallR X (.builtin "sorted") (rSortedG X.K) := by
  intro pins s σ H vs us Q I r h
  obtain ⟨a, xs, ds, rfl, hs, hd, al, sb, dp, q⟩ := h
  obtain ⟨its, rv, hl, hz⟩ := I.list hs
  rw [Vals.ref1 r]
  obtain ⟨e1, e2, e3, e4⟩ := each_zip I rv hd
  refine PySem.W.sorted_data (β := V × PyData) (enc := Prod.snd) (R := fun u b => RelV b.1 u) hl.isList e1 e2 (by rw [e3]; exact al) (by rw [e3]; exact sb) (by rw [e4]; exact hz) (fun b hb => ?_) fun out h1 h2 => ?_
  · have hm : b.2 ∈ ds := by rw [← e3]; exact List.mem_map_of_mem hb
    have := dp b.2 hm
    omega
  · obtain ⟨ep, look⟩ := PyProof.Rows.sortedAll_at s.heap its out.toArray
    have vl := vals_fst h2
    have len : (((xs.zip ds).mergeSort (PySem.W.dataLe false Prod.snd)).map Prod.fst).length ≤ sizeLine := by rw [List.length_map, List.length_mergeSort, e4]; exact hz
    have I' : Inv X pins σ (upd H (s.heap.objs.size + 1) (.lst (((xs.zip ds).mergeSort (PySem.W.dataLe false Prod.snd)).map Prod.fst))) { s with heap := PyProof.Rows.sortedAll s.heap its out.toArray } :=
      I.laid (t' := s.toks) (fun b o => PyProof.Rows.sortedAll_old) (Nat.le_succ _) ⟨len, out, ep, vl, look⟩
    exact ⟨.ref _, _, I', rfl, q _ (I.hok.fresh (Nat.le_succ _))⟩
end
end L2
namespace PL
open PySem PySem.Spec PyProof.Rows L2
/-- the order of alike data -/
def leD (a b : D) : Bool := !PySem.W.dataLt b a
def sortableB (ds : List D) : Bool := ds.all (fun d => match d with
    | .tuple (_ :: _) => true
    | _ => false) || ds.all (fun d => match d with
    | .none => false
    | .tuple _ => false
    | _ => true)
def gSortedG : List Sl → Option Rf
  | [s] => (match asL s with
    | some ds => if ds.all (fun d => ds.all fun e => PySem.W.alike d e) = true ∧ sortableB ds = true ∧ ds.all nice = true then some (.tmp (.ol (ds.mergeSort leD))) else none
    | none => none)
  | _ => none
theorem sortable_of {ds : List D} (h : sortableB ds = true) : PySem.W.Sortable ds := by
  unfold sortableB at h
  rw [Bool.or_eq_true, List.all_eq_true, List.all_eq_true] at h
  rcases h with h | h
  · refine .inl fun d hd => ?_
    have := h d hd
    split at this
    · exact ⟨_, _, rfl⟩
    · cases this
  · refine .inr fun d hd => ?_
    have := h d hd
    constructor
    · rintro rfl; cases this
    · rintro xs rfl; cases this
theorem dnA_zip {mg : MG} {G : AP} {H : Hp} : ∀ {xs : List V} {ds : List D}, DnA mg G H xs ds → ∀ p ∈ xs.zip ds, Dn mg G H p.1 p.2
  | _, _, .nil, p, hp => by simp at hp
  | _, _, .cons a r, p, hp => by
    rw [List.zip_cons_cons] at hp
    rcases List.mem_cons.mp hp with e | e
    · rw [e]; exact a
    · exact dnA_zip r p e
theorem dnA_of {mg : MG} {G : AP} {H : Hp} : ∀ {ps : List (V × D)}, (∀ p ∈ ps, Dn mg G H p.1 p.2) → DnA mg G H (ps.map Prod.fst) (ps.map Prod.snd)
  | [], _ => .nil
  | p :: ps, h => .cons (h p List.mem_cons_self) (dnA_of fun q hq => h q (List.mem_cons_of_mem _ hq))
theorem zip_snd {α β : Type} : ∀ {xs : List α} {ds : List β}, xs.length = ds.length → (xs.zip ds).map Prod.snd = ds
  | [], [], _ => rfl
  | [], _ :: _, h => by simp at h
  | _ :: _, [], h => by simp at h
  | x :: xs, d :: ds, h => by rw [List.zip_cons_cons, List.map_cons, zip_snd (by simpa using h)]
theorem lay_all {ds : List D} (h : ds.all nice = true) : PyData.canLayAll0 ds = true := by
  induction ds with
  | nil => simp [PyData.canLayAll0]
  | cons d r ih =>
    rw [List.all_cons, Bool.and_eq_true] at h
    rw [PyData.canLayAll0, nice_lay h.1, ih h.2]
    rfl
section
variable {X : Cx} {W : WX} {B : Bs} {a b c e ei tg : Expr} {es : List Expr} {ma mb mc m mi : M Rf} {ms : M (List Rf)} {p p1 p2 pos apos cpos tpos : Pos} {np : Nat} {x : Str}
theorem ok_sortedG (hu : X.A.units + 67 < cLine) : CallOk X (.builtin "sorted") gSortedG := by
  refine ⟨_, cr_sortedG hu, fun G H xs ss z Q t lb hs hz q => ?_⟩
  unfold gSortedG at hz
  split at hz
  · rename_i s
    split at hz
    · rename_i ds he
      split at hz
      · rename_i hc
        cases hz
        cases hs with
        | cons h r =>
          cases r
          obtain ⟨a, us, rfl, h1, d1⟩ := h.asL he
          obtain ⟨c1, c2, c3⟩ := hc
          have al : PySem.W.AllAlike ds := fun d hd e he => List.all_eq_true.mp (List.all_eq_true.mp c1 d hd) e he
          refine ⟨a, us, ds, rfl, .of h1, d1.dp (lay_all c3), al, sortable_of c2, fun d hd => SeqAt.depth_of_shaped (List.all_eq_true.mp c3 d hd), fun p hp => ?_⟩
          have em : ((us.zip ds).mergeSort (PySem.W.dataLe false Prod.snd)).map Prod.snd = ds.mergeSort leD := by
            have q := List.map_mergeSort (r := PySem.W.dataLe false (Prod.snd : V × D → D)) (s := leD) (f := Prod.snd) (l := us.zip ds) fun x _ y _ => rfl
            rw [q, zip_snd d1.length]
          have dn : DnA X.ct G H (((us.zip ds).mergeSort (PySem.W.dataLe false Prod.snd)).map Prod.fst) (ds.mergeSort leD) := by
            rw [← em]
            exact dnA_of fun p hp => dnA_zip d1 p (List.mem_mergeSort.mp hp)
          obtain ⟨n, zr⟩ := new_lst t dn (by rw [dn.length, List.length_mergeSort, ← d1.length]; exact lb.1 a us (.inr (.inl h1))) hp
          exact q _ _ _ n zr
      · cases hz
    · cases hz
  · cases hz
theorem hu67 {kk : Nat} {A : Around} (hr : Room kk A) : A.units + 67 < cLine := by have := hr.un; omega
end
end PL

set_option maxRecDepth 100000
namespace PL
open PySem PySem.Spec PyProof.Rows L2

/-! ### comprehensions with two clauses -/
/-- the frame goes on; the list at C may grow -/
structure ExtC (C : Addr) (G : AP) (H : Hp) (G' : AP) (H' : Hp) (σ : St) (env env' : En) : Prop where
  e1 : ∀ b o, b ≠ C → H b = some o → ¬ Ow σ env b → H' b = some o
  e2 : ∀ b, H b ≠ none → H' b ≠ none
  e3 : ∀ b, G' b → G b ∨ H b = none
  e4 : ∀ b, G b → ¬ Ow σ env b → G' b
  e5 : ∀ b, Ow σ env' b → Ow σ env b
theorem ExtC.trans {C : Addr} {G G1 G2 : AP} {H H1 H2 : Hp} {σ : St} {env env1 env2 : En} (a : ExtC C G H G1 H1 σ env env1) (b : ExtC C G1 H1 G2 H2 σ env1 env2) : ExtC C G H G2 H2 σ env env2 :=
  ⟨fun c o hc h n => b.e1 c o hc (a.e1 c o hc h n) fun z => n (a.e5 c z), fun c h => b.e2 c (a.e2 c h), fun c h => by
    rcases b.e3 c h with z | z
    · exact a.e3 c z
    · exact .inr (back_none a.e2 z), fun c h n => b.e4 c (a.e4 c h n) fun z => n (a.e5 c z), fun c h => a.e5 c (b.e5 c h)⟩
theorem Ext.c {C : Addr} {G G' : AP} {H H' : Hp} {σ : St} {env env' : En} (x : Ext G H G' H' σ env env') : ExtC C G H G' H' σ env env' := ⟨fun b o _ => x.e1 b o, x.e2, x.e3, x.e4, x.e5⟩
/-- behind a ground at which C is free -/
theorem ExtC.join {C : Addr} {G G1 G2 : AP} {H H1 H2 : Hp} {σ : St} {env env1 env2 : En} (a : Ext G H G1 H1 σ env env1) (hC : H C = none) (b : ExtC C G1 H1 G2 H2 σ env1 env2) : Ext G H G2 H2 σ env env2 :=
  ⟨fun c o h n => b.e1 c o (fun z => by rw [z, hC] at h; cases h) (a.e1 c o h n) fun z => n (a.e5 c z), fun c h => b.e2 c (a.e2 c h), fun c h => by
    rcases b.e3 c h with z | z
    · exact a.e3 c z
    · exact .inr (back_none a.e2 z), fun c h n => b.e4 c (a.e4 c h n) fun z => n (a.e5 c z), fun c h => a.e5 c (b.e5 c h)⟩
/-- what a clause's loop asks, of the list at C -/
def LcW (g : TG) (tt : TT) (te : TE) (vs : List Nat) (σ : St) (J : It) (C : Addr) (H1 : Hp) (K : Hp → Prop) : Prop := ∃ W : Nat → Nat → Hp → Prop, (∃ m, W 0 m H1) ∧ ∀ j k H, W j k H →
  (J.stop j H ∧ K H) ∨ (J.go j H ∧ ∃ Nx : Hp → Prop, (∀ H', Nx H' → ∃ k', k' < k ∧ W (j + 1) k' H') ∧ ∀ x H', J.yld j H x H' → g x (wipe σ vs) H' fun σ3 H5 => wipe σ3 vs = wipe σ vs ∧ tt σ3 H5 fun b H6 =>
    if b = true then te σ3 H6 fun y H7 => ∃ acc, H7 C = some (.lst acc) ∧ acc.length < sizeLine ∧ Nx (upd H7 C (.lst (acc ++ [y]))) else Nx H6)
theorem lcw_ok {B : Bs} {mg : MG} {np : Nat} {vs sl : List Nat} {g : TG} {tt : TT} {te : TE} {mt : MT} {mc : M Bool} {me : M Rf} (hnp : B.np ≤ np) (hvs : ∀ v ∈ vs, np ≤ v) (hsl : ∀ k ∈ sl, k ∈ vs)
    (ig : ImpG B mg sl g mt) (it : Imp B mg WF rB tt mc) (ie : Imp B mg WF (rV mg) te me) {G1 : AP} {H1 : Hp} {σ : St} {env : En} {J : It} {ds : List D} {C : Addr} {acc0 : List V} {out0 : List D}
    (E1 : ER B mg G1 H1 σ env) (w : Walks mg G1 H1 J ds) (gC1 : G1 C) (oC1 : ¬ Ow σ env C) (hC0 : B.H0 C = none) (aC1 : H1 C = some (.lst acc0)) (dA1 : DnA mg G1 H1 acc0 out0) (hz : acc0.length + ds.length ≤ sizeLine)
    {r : List D} {e' : En} (hr : lcLoop np vs mt mc me ds (wipeE vs env) = .ok r e') (K : Hp → Prop)
    (kk : ∀ G' H' acc', ER B mg G' H' σ e' → G' C → ¬ Ow σ e' C → H' C = some (.lst acc') → DnA mg G' H' acc' (out0 ++ r) → acc'.length ≤ acc0.length + ds.length → ExtC C G1 H1 G' H' σ env e' → Fz G1 H1 G' H' → K H') : LcW g tt te vs σ J C H1 K := by
  have wp : ∀ {G' : AP} {H' : Hp} {σ2 : St} {e : En}, ER B mg G' H' σ2 e → σ2.length = σ.length → (∀ k, k ∉ vs → σ2[k]? = σ[k]?) → ER B mg G' H' (wipe σ vs) (wipeE vs e) := fun {G' H' σ2 e} E' hl hk =>
    E'.sub (wipeE_length _ _) (by rw [wipe_length, hl]) (fun i s h n => by
      obtain ⟨a, b⟩ := wipeE_some h n
      exact ⟨b, by rw [wipe_out a, hk i a]⟩) fun i hi => by
      have a : i ∉ vs := fun z => by have := hvs i z; omega
      exact ⟨wipeE_out a, by rw [wipe_out a, hk i a]⟩
  have uw : ∀ {G' : AP} {H' : Hp} {e : En}, ER B mg G' H' (wipe σ vs) (wipeE vs e) → ER B mg G' H' σ (wipeE vs e) := fun {G' H' e} E' =>
    E'.sub rfl (wipe_length _ _).symm (fun i s h n => ⟨h, by rw [wipe_out (wipeE_some h n).1]⟩) fun i hi => by
      have a : i ∉ vs := fun z => by have := hvs i z; omega
      exact ⟨rfl, by rw [wipe_out a]⟩
  have ow1 : ∀ {e : En} {b : Addr}, Ow σ (wipeE vs e) b → Ow (wipe σ vs) (wipeE vs e) b := fun {e b} q => q.sub fun i s h n => ⟨h, by rw [wipe_out (wipeE_some h n).1]⟩
  have ow2 : ∀ {e : En} {b : Addr}, Ow (wipe σ vs) (wipeE vs e) b → Ow σ (wipeE vs e) b := fun {e b} q => q.sub fun i s h n => ⟨h, by rw [wipe_out (wipeE_some h n).1]⟩
  have owE : ∀ {σ2 : St} {e : En} {b : Addr}, (∀ k, k ∉ vs → σ2[k]? = σ[k]?) → Ow (wipe σ vs) (wipeE vs e) b → Ow σ2 e b := fun {σ2 e b} hk q => q.sub fun i s h n => by
    obtain ⟨a, z⟩ := wipeE_some h n
    exact ⟨z, by rw [wipe_out a, hk i a]⟩
  let N : Nat → Hp → Prop := fun i H' => ∃ (G' : AP) (e : En) (acc : List V) (out : List D) (r2 : List D), ER B mg G' H' (wipe σ vs) (wipeE vs e) ∧ G' C ∧ ¬ Ow σ (wipeE vs e) C ∧ H' C = some (.lst acc) ∧ DnA mg G' H' acc out ∧ acc.length ≤ acc0.length + i ∧ ExtC C G1 H1 G' H' σ env (wipeE vs e) ∧ Fz G1 H1 G' H' ∧
    lcLoop np vs mt mc me (ds.drop i) (wipeE vs e) = .ok r2 e' ∧ out ++ r2 = out0 ++ r
  have hN : ∀ i H', N i H' ↔ ∃ (G' : AP) (e : En) (acc : List V) (out : List D) (r2 : List D), ER B mg G' H' (wipe σ vs) (wipeE vs e) ∧ G' C ∧ ¬ Ow σ (wipeE vs e) C ∧ H' C = some (.lst acc) ∧ DnA mg G' H' acc out ∧ acc.length ≤ acc0.length + i ∧ ExtC C G1 H1 G' H' σ env (wipeE vs e) ∧ Fz G1 H1 G' H' ∧
    lcLoop np vs mt mc me (ds.drop i) (wipeE vs e) = .ok r2 e' ∧ out ++ r2 = out0 ++ r := fun _ _ => Iff.rfl
  refine ⟨fun i m H' => m = ds.length - i ∧ i ≤ ds.length ∧ N i H', ⟨ds.length, by simp, Nat.zero_le _, (hN _ _).mpr ⟨G1, env, acc0, out0, r, wp E1 rfl fun _ _ => rfl, gC1, fun q => oC1 (owE (fun _ _ => rfl) (ow1 q)), aC1, dA1, Nat.le_refl _, ?_, Fz.refl, hr, rfl⟩⟩, ?_⟩
  · exact ⟨fun _ _ _ h _ => h, fun _ h => h, fun _ h => .inl h, fun _ h _ => h, fun b q => owE (fun _ _ => rfl) (ow1 q)⟩
  · rintro i m H2 ⟨rfl, hi, hn⟩
    obtain ⟨G2, e2, acc, out, r2, E2, gC, oC, aC, dA, lA, x2, f2, p2, eq2⟩ := (hN _ _).mp hn
    by_cases hlt : i < ds.length
    · refine .inr ⟨w.go G2 H2 i f2 hlt, N (i + 1), fun H' p' => ⟨ds.length - (i + 1), by omega, rfl, hlt, p'⟩, fun x H3 hy => ?_⟩
      obtain ⟨d, hd, n3, dn⟩ := w.yld G2 H2 i x H3 f2 E2.gt E2.lb hlt hy
      rw [drop_cons hd] at p2
      unfold lcLoop at p2
      split at p2
      · cases p2
      · rename_i e3 he3
        have E3 := E2.new n3
        refine ig G2 H3 (wipe σ vs) (wipeE vs e2) x d e3 _ E3 dn he3 fun σ4 E4 s4 o4 => ⟨wipe_ext s4 hsl, ?_⟩
        have l4 : σ4.length = σ.length := by rw [s4.1, wipe_length]
        have k4 : ∀ k, k ∉ vs → σ4[k]? = σ[k]? := fun k hk => by rw [s4.2 k fun z => hk (hsl k z), wipe_out hk]
        have oC4 : ¬ Ow σ4 e3 C := fun q => oC (ow2 (o4 C q))
        refine it G2 H3 σ4 e3 _ E4 ?_
        generalize hmc : mc e3 = rc at p2
        cases rc with
        | exn c e => cases p2
        | stuck => cases p2
        | ok k e5 =>
          rw [Res.bindN_ok] at p2
          intro G5 H5 b E5 rb x5
          subst rb
          have aC3 : H3 C = some (.lst acc) := n3.k _ _ aC
          have aC5 : H5 C = some (.lst acc) := x5.e1 C _ aC3 oC4
          have gC5 : G5 C := x5.e4 C (n3.g C gC) oC4
          have oC5 : ¬ Ow σ4 e5 C := fun q => oC4 (x5.e5 C q)
          have fz5 : Fz G2 H2 G5 H5 := n3.fz.trans (x5.fz E4)
          have xs : ∀ {G' : AP} {H' : Hp} {e : En}, Ext G2 H3 G' H' σ4 e3 e → ExtC C G1 H1 G' H' σ env (wipeE vs e) := fun {G' H' e} z => by
            have y : ExtC C G1 H1 G2 H3 σ env (wipeE vs e2) := x2.trans (n3.ext (σ := σ) (env := wipeE vs e2)).c
            refine ⟨fun c o hc h nn => z.e1 c o (y.e1 c o hc h nn) fun q => nn (y.e5 c (ow2 (o4 c q))), fun c h => z.e2 c (y.e2 c h), fun c h => ?_, fun c h nn => z.e4 c (y.e4 c h nn) fun q => nn (y.e5 c (ow2 (o4 c q))), fun c q => y.e5 c (ow2 (o4 c (z.e5 c (owE k4 (ow1 q)))))⟩
            rcases z.e3 c h with q | q
            · exact y.e3 c q
            · exact .inr (back_none y.e2 q)
          cases b with
          | false =>
            rw [if_neg Bool.false_ne_true]
            exact (hN _ _).mpr ⟨G5, e5, acc, out, r2, wp E5 l4 k4, gC5, fun q => oC5 (owE k4 (ow1 q)), aC5, dA.keep fz5, by omega, xs x5, f2.trans fz5, p2, eq2⟩
          | true =>
            rw [if_pos rfl]
            refine ie G5 H5 σ4 e5 _ E5 ?_
            dsimp only at p2
            generalize hme : me e5 = re at p2
            cases re with
            | exn c e => cases p2
            | stuck => cases p2
            | ok y e6 =>
              intro G6 H6 v E6 rv x6
              rw [Res.bindN_ok] at p2
              generalize hti : toI np y e6 = rt at p2
              cases rt with
              | exn c e => cases p2
              | stuck => cases p2
              | ok dd e7 =>
                rw [Res.bindN_ok] at p2
                obtain ⟨G7, E7, dn7, x7, th7, ow7⟩ := toI_ok E5.gt E5.f2 E6 x6 rv hnp hti
                have aC7 : H6 C = some (.lst acc) := x6.e1 C _ aC5 oC5
                have gC7 : G7 C := x7.e4 C gC5 oC5
                have oC7 : ¬ Ow σ4 e7 C := fun q => oC5 (x7.e5 C q)
                have lacc : acc.length < sizeLine := by omega
                refine ⟨acc, aC7, lacc, ?_⟩
                have hz2 : (acc ++ [v]).length ≤ sizeLine := by
                  rw [List.length_append, List.length_singleton]
                  exact lacc
                have E8 := E7.poke (o' := .lst (acc ++ [v])) gC7 oC7 hC0 aC7 hz2
                have fz8 : Fz G7 H6 G7 (upd H6 C (.lst (acc ++ [v]))) := fz_poke gC7
                have fzA : Fz G2 H2 G7 (upd H6 C (.lst (acc ++ [v]))) := (fz5.trans (x7.fz E5)).trans fz8
                have x9 := xs (x5.trans x7)
                obtain ⟨r3, e8, q1, q2⟩ := bindN_ok_inv p2
                cases q2
                refine (hN _ _).mpr ⟨G7, e7, acc ++ [v], out ++ [dd], r3, wp E8 l4 k4, gC7, fun q => oC7 (owE k4 (ow1 q)), upd_same, (dA.keep fzA).append (.cons (dn7.keep fz8) .nil), ?_, ?_, f2.trans fzA, q1, by rw [List.append_assoc]; exact eq2⟩
                · rw [List.length_append, List.length_singleton]; omega
                · refine ⟨fun c o hc h nn => ?_, fun c h => ?_, x9.e3, x9.e4, x9.e5⟩
                  · rw [upd_ne hc]
                    exact x9.e1 c o hc h nn
                  · by_cases e : c = C
                    · subst e; rw [upd_same]; simp
                    · rw [upd_ne e]; exact x9.e2 c h
    · have e : i = ds.length := by omega
      subst e
      rw [List.drop_length] at p2
      cases p2
      rw [List.append_nil] at eq2
      subst eq2
      exact .inl ⟨w.stop G2 H2 _ f2 (Nat.le_refl _), kk G2 H2 acc (uw E2) gC oC aC dA lA x2 f2⟩
end PL

set_option maxRecDepth 100000
namespace PL
open PySem PySem.Spec PyProof.Rows L2
def lcLoop2 (np : Nat) (vs vs1 : List Nat) (mt : MT) (mc : M Bool) (mi1 : M (List D)) (mt1 : MT) (mc1 : M Bool) (me : M Rf) : List D → Nat → M (List D)
  | [], _ => fun e => .ok [] e
  | d :: ds, n => fun e => match mt d e with
    | none => .stuck
    | some e1 => (mc e1).bindN fun k e2 => match k with
      | true => (mi1 e2).bindN fun ds1 e3 => if n + ds1.length ≤ sizeLine then (lcLoop np vs1 mt1 mc1 me ds1 (wipeE vs1 e3)).bindN fun r1 e4 => (lcLoop2 np vs vs1 mt mc mi1 mt1 mc1 me ds (n + ds1.length) (wipeE vs e4)).bindN fun r e5 => .ok (r1 ++ r) e5 else .stuck
      | false => lcLoop2 np vs vs1 mt mc mi1 mt1 mc1 me ds n (wipeE vs e2)
def mLc2 (np : Nat) (vs vs1 : List Nat) (mi : M (List D)) (mt : MT) (mc : M Bool) (mi1 : M (List D)) (mt1 : MT) (mc1 : M Bool) (me : M Rf) : M Rf := fun env => (mi env).bind fun ds e => (lcLoop2 np vs vs1 mt mc mi1 mt1 mc1 me ds 0 (wipeE vs e)).bindN fun r e' => .ok (.tmp (.ol r)) e'
theorem imp_lc2 {B : Bs} {mg : MG} {W : WX} {np : Nat} {vs vs1 sl sl1 : List Nat} {wi wi1 : TI} {g g1 : TG} {tt tt1 : TT} {te : TE} {mi mi1 : M (List D)} {mt mt1 : MT} {mc mc1 : M Bool} {me : M Rf} (hnp : B.np ≤ np) (hvs : ∀ v ∈ vs, np ≤ v) (hvs1 : ∀ v ∈ vs1, np ≤ v) (hsl : ∀ k ∈ sl, k ∈ vs) (hsl1 : ∀ k ∈ sl1, k ∈ vs1)
    (ii : Imp B mg W (rI mg) wi mi) (ig : ImpG B mg sl g mt) (it : Imp B mg WF rB tt mc) (ii1 : Imp B mg WF (rI mg) wi1 mi1) (ig1 : ImpG B mg sl1 g1 mt1) (it1 : Imp B mg WF rB tt1 mc1) (ie : Imp B mg WF (rV mg) te me) :
    Imp B mg W (rV mg) (tLc2 wi g tt wi1 g1 tt1 te vs vs1) (mLc2 np vs vs1 mi mt mc mi1 mt1 mc1 me) := fun G H σ env Q E p => by
  refine ii.run E Ext.refl p fun J ds env1 G1 H1 _ E1 w _ x1 p => ?_
  intro C hC
  have hC0 : H C = none := back_none x1.e2 hC
  have hCB : B.H0 C = none := E.dom0 hC0
  have n1 := New.updG (o := .lst []) E1.gt hC (Nat.zero_le _)
  have wp : ∀ {G' : AP} {H' : Hp} {σ2 : St} {e : En}, ER B mg G' H' σ2 e → σ2.length = σ.length → (∀ k, k ∉ vs → σ2[k]? = σ[k]?) → ER B mg G' H' (wipe σ vs) (wipeE vs e) := fun {G' H' σ2 e} E' hl hk =>
    E'.sub (wipeE_length _ _) (by rw [wipe_length, hl]) (fun i s h n => by
      obtain ⟨a, b⟩ := wipeE_some h n
      exact ⟨b, by rw [wipe_out a, hk i a]⟩) fun i hi => by
      have a : i ∉ vs := fun z => by have := hvs i z; omega
      exact ⟨wipeE_out a, by rw [wipe_out a, hk i a]⟩
  have uw : ∀ {G' : AP} {H' : Hp} {e : En}, ER B mg G' H' (wipe σ vs) (wipeE vs e) → ER B mg G' H' σ (wipeE vs e) := fun {G' H' e} E' =>
    E'.sub rfl (wipe_length _ _).symm (fun i s h n => ⟨h, by rw [wipe_out (wipeE_some h n).1]⟩) fun i hi => by
      have a : i ∉ vs := fun z => by have := hvs i z; omega
      exact ⟨rfl, by rw [wipe_out a]⟩
  have ow1 : ∀ {e : En} {b : Addr}, Ow σ (wipeE vs e) b → Ow (wipe σ vs) (wipeE vs e) b := fun {e b} q => q.sub fun i s h n => ⟨h, by rw [wipe_out (wipeE_some h n).1]⟩
  have ow2 : ∀ {e : En} {b : Addr}, Ow (wipe σ vs) (wipeE vs e) b → Ow σ (wipeE vs e) b := fun {e b} q => q.sub fun i s h n => ⟨h, by rw [wipe_out (wipeE_some h n).1]⟩
  have owE : ∀ {σ2 : St} {e : En} {b : Addr}, (∀ k, k ∉ vs → σ2[k]? = σ[k]?) → Ow (wipe σ vs) (wipeE vs e) b → Ow σ2 e b := fun {σ2 e b} hk q => q.sub fun i s h n => by
    obtain ⟨a, z⟩ := wipeE_some h n
    exact ⟨z, by rw [wipe_out a, hk i a]⟩
  let N : Nat → Hp → Prop := fun i H' => ∃ (G' : AP) (e : En) (acc : List V) (out : List D) (n : Nat), ER B mg G' H' (wipe σ vs) (wipeE vs e) ∧ G' C ∧ ¬ Ow σ (wipeE vs e) C ∧ H' C = some (.lst acc) ∧ DnA mg G' H' acc out ∧ acc.length ≤ n ∧ Ext G H G' H' σ env (wipeE vs e) ∧ Fz G1 H1 G' H' ∧
    Post B mg W (rV mg) G H σ env ((lcLoop2 np vs vs1 mt mc mi1 mt1 mc1 me (ds.drop i) n (wipeE vs e)).bindN fun r e' => .ok (.tmp (.ol (out ++ r))) e') Q
  have hN : ∀ i H', N i H' ↔ ∃ (G' : AP) (e : En) (acc : List V) (out : List D) (n : Nat), ER B mg G' H' (wipe σ vs) (wipeE vs e) ∧ G' C ∧ ¬ Ow σ (wipeE vs e) C ∧ H' C = some (.lst acc) ∧ DnA mg G' H' acc out ∧ acc.length ≤ n ∧ Ext G H G' H' σ env (wipeE vs e) ∧ Fz G1 H1 G' H' ∧
    Post B mg W (rV mg) G H σ env ((lcLoop2 np vs vs1 mt mc mi1 mt1 mc1 me (ds.drop i) n (wipeE vs e)).bindN fun r e' => .ok (.tmp (.ol (out ++ r))) e') Q := fun _ _ => Iff.rfl
  refine ⟨fun i m H' => m = ds.length - i ∧ i ≤ ds.length ∧ N i H', ⟨ds.length, by simp, Nat.zero_le _, (hN _ _).mpr ⟨_, env1, [], [], 0, wp (E1.new n1) rfl fun _ _ => rfl, .inr rfl, fun q => ?_, upd_same, .nil, Nat.le_refl _, ?_, n1.fz, p⟩⟩, ?_⟩
  · exact E1.ow_there (owE (fun _ _ => rfl) (ow1 q)) hC
  · have x2 := x1.trans (n1.ext (σ := σ) (env := env1))
    exact ⟨x2.e1, x2.e2, x2.e3, x2.e4, fun b q => x2.e5 b (owE (fun _ _ => rfl) (ow1 q))⟩
  · rintro i m H2 ⟨rfl, hi, hn⟩
    obtain ⟨G2, e2, acc, out, n, E2, gC, oC, aC, dA, lA, x2, f2, p2⟩ := (hN _ _).mp hn
    by_cases hlt : i < ds.length
    · refine .inr ⟨w.go G2 H2 i f2 hlt, N (i + 1), fun H' p' => ⟨ds.length - (i + 1), by omega, rfl, hlt, p'⟩, fun x H3 hy => ?_⟩
      obtain ⟨d, hd, n3, dn⟩ := w.yld G2 H2 i x H3 f2 E2.gt E2.lb hlt hy
      rw [drop_cons hd] at p2
      unfold lcLoop2 at p2
      split at p2
      · exact p2.elim
      · rename_i e3 he3
        have E3 := E2.new n3
        refine ig G2 H3 (wipe σ vs) (wipeE vs e2) x d e3 _ E3 dn he3 fun σ4 E4 s4 o4 => ⟨wipe_ext s4 hsl, ?_⟩
        have l4 : σ4.length = σ.length := by rw [s4.1, wipe_length]
        have k4 : ∀ k, k ∉ vs → σ4[k]? = σ[k]? := fun k hk => by rw [s4.2 k fun z => hk (hsl k z), wipe_out hk]
        have oC4 : ¬ Ow σ4 e3 C := fun q => oC (ow2 (o4 C q))
        refine it G2 H3 σ4 e3 _ E4 ?_
        generalize hmc : mc e3 = rc at p2
        cases rc with
        | exn c e => exact p2.elim
        | stuck => exact p2.elim
        | ok k e5 =>
          rw [Res.bindN_ok] at p2
          intro G5 H5 b E5 rb x5
          subst rb
          have aC3 : H3 C = some (.lst acc) := n3.k _ _ aC
          have aC5 : H5 C = some (.lst acc) := x5.e1 C _ aC3 oC4
          have gC5 : G5 C := x5.e4 C (n3.g C gC) oC4
          have oC5 : ¬ Ow σ4 e5 C := fun q => oC4 (x5.e5 C q)
          have fz5 : Fz G2 H2 G5 H5 := n3.fz.trans (x5.fz E4)
          have xs : ∀ {G' : AP} {H' : Hp} {e : En}, ExtC C G2 H3 G' H' σ4 e3 e → Ext G H G' H' σ env (wipeE vs e) := fun {G' H' e} z => by
            have y : Ext G H G2 H3 σ env (wipeE vs e2) := x2.trans (n3.ext (σ := σ) (env := wipeE vs e2))
            refine ⟨fun c o h nn => z.e1 c o (fun q => by rw [q, hC0] at h; cases h) (y.e1 c o h nn) fun q => nn (y.e5 c (ow2 (o4 c q))), fun c h => z.e2 c (y.e2 c h), fun c h => ?_, fun c h nn => z.e4 c (y.e4 c h nn) fun q => nn (y.e5 c (ow2 (o4 c q))), fun c q => y.e5 c (ow2 (o4 c (z.e5 c (owE k4 (ow1 q)))))⟩
            rcases z.e3 c h with q | q
            · exact y.e3 c q
            · exact .inr (back_none y.e2 q)
          cases b with
          | false =>
            rw [if_neg Bool.false_ne_true]
            exact (hN _ _).mpr ⟨G5, e5, acc, out, n, wp E5 l4 k4, gC5, fun q => oC5 (owE k4 (ow1 q)), aC5, dA.keep fz5, lA, xs x5.c, f2.trans fz5, p2⟩
          | true =>
            rw [if_pos rfl]
            refine ii1 G5 H5 σ4 e5 _ E5 ?_
            dsimp only at p2
            generalize hmi : mi1 e5 = ri at p2
            cases ri with
            | exn c e => exact p2.elim
            | stuck => exact p2.elim
            | ok ds1 e6 =>
              intro G6 H6 J1 E6 w1 x6
              rw [Res.bindN_ok] at p2
              by_cases hn1 : n + ds1.length ≤ sizeLine
              · rw [if_pos hn1] at p2
                have aC6 : H6 C = some (.lst acc) := x6.e1 C _ aC5 oC5
                have gC6 : G6 C := x6.e4 C gC5 oC5
                have oC6 : ¬ Ow σ4 e6 C := fun q => oC5 (x6.e5 C q)
                have fz6 : Fz G2 H2 G6 H6 := fz5.trans (x6.fz E5)
                generalize hlp : lcLoop np vs1 mt1 mc1 me ds1 (wipeE vs1 e6) = rl at p2
                cases rl with
                | exn c e => exact p2.elim
                | stuck => exact p2.elim
                | ok r1 e7 =>
                  rw [Res.bindN_ok] at p2
                  refine lcw_ok hnp hvs1 hsl1 ig1 it1 ie E6 w1 gC6 oC6 hCB aC6 (dA.keep fz6) (by omega) hlp (N (i + 1)) fun G7 H7 acc7 E7 gC7 oC7 aC7 dA7 l7 x7 fz7 => ?_
                  refine (hN _ _).mpr ⟨G7, e7, acc7, out ++ r1, n + ds1.length, wp E7 l4 k4, gC7, fun q => oC7 (owE k4 (ow1 q)), aC7, dA7, by omega, xs ((x5.c.trans x6.c).trans x7), f2.trans (fz6.trans fz7), ?_⟩
                  generalize hlo : lcLoop2 np vs vs1 mt mc mi1 mt1 mc1 me (ds.drop (i + 1)) (n + ds1.length) (wipeE vs e7) = ro at p2 ⊢
                  cases ro with
                  | exn c e => exact p2.elim
                  | stuck => exact p2.elim
                  | ok r e =>
                    have p3 : Post B mg W (rV mg) G H σ env (.ok (.tmp (.ol (out ++ (r1 ++ r)))) e) Q := p2
                    rw [Res.bindN_ok, List.append_assoc]
                    exact p3
              · rw [if_neg hn1] at p2
                exact p2.elim
    · have e : i = ds.length := by omega
      subst e
      rw [List.drop_length] at p2
      refine .inl ⟨w.stop G2 H2 _ f2 (Nat.le_refl _), ?_⟩
      have p3 : Post B mg W (rV mg) G H σ env (.ok (.tmp (.ol (out ++ []))) (wipeE vs e2)) Q := p2
      rw [List.append_nil] at p3
      exact p3 G2 H2 (.ref C) (uw E2) ⟨C, rfl, ⟨gC, hC0, acc, aC, dA⟩, oC⟩ x2
section
variable {X : Cx} {W : WX} {B : Bs} {elt tg iter tg1 iter1 : Expr} {ifs ifs1 : List Expr} {scope : Scope} {own : List (Str × Nat)} {pos spos py : Pos} {np : Nat} {vs vs1 sl sl1 : List Nat} {mi mi1 : M (List D)} {mt mt1 : MT} {mc mc1 : M Bool} {me : M Rf}
theorem xlc2 (hc : X.calm = true) (hN : X.N.Nodup) (hi : XI X W B tg iter mi) (ok : BlkOk X.N X.env.scope scope own) (hg : ∀ b, XG (blkX X scope b) B tg sl mt) (ht : ∀ b, XTs (blkX X scope b) WF B ifs mc)
    (hi1 : ∀ b, XI (blkX X scope b) WF B tg1 iter1 mi1) (hg1 : ∀ b, XG (blkX X scope b) B tg1 sl1 mt1) (ht1 : ∀ b, XTs (blkX X scope b) WF B ifs1 mc1) (he : ∀ b, XE (blkX X scope b) WF B elt me)
    (hnp : B.np ≤ np) (hvs : ∀ v ∈ own.map (·.2), np ≤ v) (hsl : ∀ k ∈ sl, k ∈ own.map (·.2)) (hv1 : ∀ i ∈ vs1, i ∈ own.map (·.2)) (hsl1 : ∀ k ∈ sl1, k ∈ vs1) (hs : ∀ x, foldedSetIterable iter X.env x = pure x := by intro _; rfl) (hs1 : ∀ env x, foldedSetIterable iter1 env x = pure x := by intro _ _; rfl) :
    XE X W B (.ListComp elt [⟨tg, iter, ifs, 0⟩, ⟨tg1, iter1, ifs1, 0⟩] scope pos) (mLc2 np (own.map (·.2)) vs1 mi mt mc mi1 mt1 mc1 me) := by
  obtain ⟨⟨wi, pi, ii⟩⟩ := hi
  obtain ⟨g, pg, ig⟩ := uni_G (Xi := blkX X scope) (c := X.ct) (fun _ => rfl) hg
  obtain ⟨tt, pt, it⟩ := uni_T (Xi := blkX X scope) (c := X.ct) (fun _ => rfl) ht
  obtain ⟨wi1, pi1, ii1⟩ := uni_I (Xi := blkX X scope) (c := X.ct) (fun _ => rfl) hi1
  obtain ⟨g1, pg1, ig1⟩ := uni_G (Xi := blkX X scope) (c := X.ct) (fun _ => rfl) hg1
  obtain ⟨tt1, pt1, it1⟩ := uni_T (Xi := blkX X scope) (c := X.ct) (fun _ => rfl) ht1
  obtain ⟨te, pe, ie⟩ := uni_E (Xi := blkX X scope) (c := X.ct) (fun _ => rfl) he
  exact .by_ (pe_lc2 hc hN pi ok hv1 (fun s H C cl fp => pg ⟨s, H, C, cl, fp⟩) (fun s H C cl fp => pt ⟨s, H, C, cl, fp⟩) (fun s H C cl fp => pi1 ⟨s, H, C, cl, fp⟩) (fun s H C cl fp => pg1 ⟨s, H, C, cl, fp⟩) (fun s H C cl fp => pt1 ⟨s, H, C, cl, fp⟩) (fun s H C cl fp => pe ⟨s, H, C, cl, fp⟩) hs hs1)
    (imp_lc2 hnp hvs (fun v hv => hvs v (hv1 v hv)) hsl hsl1 ii ig it ii1 ig1 it1 ie)
end
end PL

set_option maxRecDepth 100000
namespace PL
open PySem PySem.Spec PyProof.Rows L2

/-! ### a name that is never changed: its list is shared at once -/
def sSetI (np i : Nat) (m : M Rf) : MS := fun env => ((m env).bind (toI np)).toSR fun d e => sStore np i (.im d) e
section
variable {X : Cx} {W : WX} {B : Bs} {a b c e : Expr} {m : M Rf} {pos : Pos} {np : Nat}
theorem setI_eq (np i : Nat) (m : M Rf) (env : En) : sSetI np i m env = (m env).toSR fun x e => (toI np x e).toSR fun d e => sStore np i (.im d) e := by
  unfold sSetI
  cases m env <;> rfl
theorem xs_setI {i : Nat} {x : Str} {pos' : Pos} (h : XE X W B e m) (hnp : B.np ≤ np) (hN : X.N.Nodup) (hi : X.N[i]? = some x := by rfl) (hx : Loc X.env.scope x := by first | exact .inl rfl | exact .inr rfl) (hs : swapsWith e (some (.Name x pos')) pos.line X.env = pure false := by rfl)
    (hf : X.fn x = true ∨ X.env.scope.names.lookup x = some .local := by first | exact .inl rfl | exact .inr rfl) : XS X W B (.Assign [.Name x pos'] e pos) (sSetI np i m) := by
  obtain ⟨⟨t, pt, it⟩⟩ := h
  refine ⟨⟨_, ps_set hN hi hx pt hs hf, fun G H σ env D E p => ?_⟩⟩
  rw [setI_eq] at p
  refine it.runS E p fun x y env1 G1 H1 _ E1 r1 x1 p => ?_
  obtain ⟨d, e2, h2, p⟩ := PostS.inv p toI_nox
  obtain ⟨G2, E2, dn, x2, th, _⟩ := toI_ok E.gt E.f2 E1 x1 r1 hnp h2
  exact post_store (s := .im d) E2 hnp dn (fun z => by cases z) ((x1.fz E).trans th.fz) p
end
section
variable {X : Cx} {W : WX} {B : Bs} {elt tg iter : Expr} {ifs : List Expr} {scope : Scope} {own : List (Str × Nat)} {pos spos py : Pos} {np : Nat} {vs sl : List Nat} {mi : M (List D)} {mt : MT} {mc : M Bool} {me : M Rf}
theorem xs_setLcI {i : Nat} {y : Str} (hc : X.calm = true) (hN : X.N.Nodup) (hi : XI X W B tg iter mi) (ok : BlkOk X.N X.env.scope scope own) (hg : ∀ b, XG (blkX X scope b) B tg sl mt) (ht : ∀ b, XTs (blkX X scope b) WF B ifs mc) (he : ∀ b, XE (blkX X scope b) WF B elt me)
    (hnp : B.np ≤ np) (hvs : ∀ v ∈ own.map (·.2), np ≤ v) (hsl : ∀ k ∈ sl, k ∈ own.map (·.2)) (hsw : swapsWith (.ListComp elt [⟨tg, iter, ifs, 0⟩] scope pos) (some (.Name y py)) spos.line X.env = pure true) (hy : X.N[i]? = some y := by rfl) (hyl : X.env.scope.names.lookup y = some .local := by rfl)
    (hs : ∀ x, foldedSetIterable iter X.env x = pure x := by intro _; rfl) : XS X W B (.Assign [.Name y py] (.ListComp elt [⟨tg, iter, ifs, 0⟩] scope pos) spos) (sSetI np i (mLc np (own.map (·.2)) mi mt mc me)) := by
  obtain ⟨wi, g, tt, te, pi, pg, pt, pe, im⟩ := lc_parts hc hN hi ok hg ht he hnp hvs hsl
  refine ⟨⟨_, ps_setLc (i := i) hc hN hy hyl hsw pi ok (fun s H C cl fp => pg ⟨s, H, C, cl, fp⟩) (fun s H C cl fp => pt ⟨s, H, C, cl, fp⟩) (fun s H C cl fp => pe ⟨s, H, C, cl, fp⟩) hs, fun G H σ env D E p => ?_⟩⟩
  rw [setI_eq] at p
  refine im.runS E p fun x y env1 G1 H1 _ E1 r1 x1 p => ?_
  obtain ⟨d, e2, h2, p⟩ := PostS.inv p toI_nox
  obtain ⟨G2, E2, dn, x2, th, _⟩ := toI_ok E.gt E.f2 E1 x1 r1 hnp h2
  exact post_store (s := .im d) E2 hnp dn (fun z => by cases z) ((x1.fz E).trans th.fz) p
end

/-! ### a comprehension over a list that a name keeps -/
def lcLoopV (np : Nat) (vs : List Nat) (j : Nat) (mt : MT) (mc : M Bool) (me : M Rf) : Nat → Nat → M (List D)
  | 0, _ => fun _ => .stuck
  | f + 1, i => fun e => match e[j]? with
    | some (.ol ds) => (match ds[i]? with
      | none => .ok [] e
      | some d => (match mt d e with
        | none => .stuck
        | some e1 => (mc e1).bindN fun k e2 => match k with
          | true => ((me e2).bindN (toI np)).bindN fun y e3 => (lcLoopV np vs j mt mc me f (i + 1) (wipeE vs e3)).bindN fun r e4 => .ok (y :: r) e4
          | false => lcLoopV np vs j mt mc me f (i + 1) (wipeE vs e2)))
    | _ => .stuck
def mLcV (np : Nat) (vs : List Nat) (j : Nat) (mt : MT) (mc : M Bool) (me : M Rf) : M Rf := fun env => match env[j]? with
  | some (.ol ds) => (lcLoopV np vs j mt mc me (ds.length + 1) 0 (wipeE vs env)).bindN fun r e' => .ok (.tmp (.ol r)) e'
  | _ => .stuck
theorem imp_lcV {B : Bs} {mg : MG} {W : WX} {np j : Nat} {vs sl : List Nat} {g : TG} {tt : TT} {te : TE} {mt : MT} {mc : M Bool} {me : M Rf} (hnp : B.np ≤ np) (hvs : ∀ v ∈ vs, np ≤ v) (hsl : ∀ k ∈ sl, k ∈ vs) (hj : j ∉ vs)
    (ig : ImpG B mg sl g mt) (it : Imp B mg WF rB tt mc) (ie : Imp B mg WF (rV mg) te me) : Imp B mg W (rV mg) (tLc (iList mg.K (tVar j)) g tt te vs) (mLcV np vs j mt mc me) := fun G H σ env Q E p => by
  unfold mLcV at p
  split at p
  case h_2 => exact p.elim
  rename_i ds0 hds0
  obtain ⟨a, xs0, hv0, ga0, ha0, _, _, _⟩ := E.own hds0
  refine ⟨.ref a, hv0, a, rfl, ⟨xs0, .of ha0⟩, ?_⟩
  intro C hC
  have n1 := New.updG (o := .lst []) E.gt hC (Nat.zero_le _)
  have wp : ∀ {G' : AP} {H' : Hp} {σ2 : St} {e : En}, ER B mg G' H' σ2 e → σ2.length = σ.length → (∀ k, k ∉ vs → σ2[k]? = σ[k]?) → ER B mg G' H' (wipe σ vs) (wipeE vs e) := fun {G' H' σ2 e} E' hl hk =>
    E'.sub (wipeE_length _ _) (by rw [wipe_length, hl]) (fun i s h n => by
      obtain ⟨a, b⟩ := wipeE_some h n
      exact ⟨b, by rw [wipe_out a, hk i a]⟩) fun i hi => by
      have a : i ∉ vs := fun z => by have := hvs i z; omega
      exact ⟨wipeE_out a, by rw [wipe_out a, hk i a]⟩
  have uw : ∀ {G' : AP} {H' : Hp} {e : En}, ER B mg G' H' (wipe σ vs) (wipeE vs e) → ER B mg G' H' σ (wipeE vs e) := fun {G' H' e} E' =>
    E'.sub rfl (wipe_length _ _).symm (fun i s h n => ⟨h, by rw [wipe_out (wipeE_some h n).1]⟩) fun i hi => by
      have a : i ∉ vs := fun z => by have := hvs i z; omega
      exact ⟨rfl, by rw [wipe_out a]⟩
  have ow1 : ∀ {e : En} {b : Addr}, Ow σ (wipeE vs e) b → Ow (wipe σ vs) (wipeE vs e) b := fun {e b} q => q.sub fun i s h n => ⟨h, by rw [wipe_out (wipeE_some h n).1]⟩
  have ow2 : ∀ {e : En} {b : Addr}, Ow (wipe σ vs) (wipeE vs e) b → Ow σ (wipeE vs e) b := fun {e b} q => q.sub fun i s h n => ⟨h, by rw [wipe_out (wipeE_some h n).1]⟩
  have owE : ∀ {σ2 : St} {e : En} {b : Addr}, (∀ k, k ∉ vs → σ2[k]? = σ[k]?) → Ow (wipe σ vs) (wipeE vs e) b → Ow σ2 e b := fun {σ2 e b} hk q => q.sub fun i s h n => by
    obtain ⟨a, z⟩ := wipeE_some h n
    exact ⟨z, by rw [wipe_out a, hk i a]⟩
  have wj : (wipe σ vs)[j]? = some (some (V.ref a)) := by rw [wipe_out hj]; exact hv0
  -- the list at j in a frame
  have at_j : ∀ {G' : AP} {H' : Hp} {e : En} {ds : List D}, ER B mg G' H' (wipe σ vs) e → e[j]? = some (.ol ds) → ∃ xs, H' a = some (.lst xs) ∧ DnA mg G' H' xs ds ∧ xs.length = ds.length ∧ ds.length ≤ sizeLine := fun {G' H' e ds} E' h => by
    obtain ⟨a', xs, hv, _, hx, hd, hl, hz⟩ := E'.own h
    obtain rfl := ow_same E' wj hv
    exact ⟨xs, hx, hd, hl, hz⟩
  have sq_inj : ∀ {H' : Hp} {xs ys : List V}, H' a = some (.lst xs) → SqL mg.K H' a ys → H a ≠ none → True := fun _ _ _ => trivial
  let N : Nat → Nat → Hp → Prop := fun i f H' => ∃ (G' : AP) (e : En) (acc : List V) (out : List D), ER B mg G' H' (wipe σ vs) (wipeE vs e) ∧ G' C ∧ ¬ Ow σ (wipeE vs e) C ∧ H' C = some (.lst acc) ∧ DnA mg G' H' acc out ∧ acc.length ≤ i ∧ Ext G H G' H' σ env (wipeE vs e) ∧
    Post B mg W (rV mg) G H σ env ((lcLoopV np vs j mt mc me f i (wipeE vs e)).bindN fun r e' => .ok (.tmp (.ol (out ++ r))) e') Q
  have hN : ∀ i f H', N i f H' ↔ ∃ (G' : AP) (e : En) (acc : List V) (out : List D), ER B mg G' H' (wipe σ vs) (wipeE vs e) ∧ G' C ∧ ¬ Ow σ (wipeE vs e) C ∧ H' C = some (.lst acc) ∧ DnA mg G' H' acc out ∧ acc.length ≤ i ∧ Ext G H G' H' σ env (wipeE vs e) ∧
    Post B mg W (rV mg) G H σ env ((lcLoopV np vs j mt mc me f i (wipeE vs e)).bindN fun r e' => .ok (.tmp (.ol (out ++ r))) e') Q := fun _ _ _ => Iff.rfl
  refine ⟨fun i m H' => N i m H', ⟨ds0.length + 1, (hN _ _ _).mpr ⟨_, env, [], [], wp (E.new n1) rfl fun _ _ => rfl, .inr rfl, fun q => ?_, upd_same, .nil, Nat.le_refl _, ?_, p⟩⟩, ?_⟩
  · exact E.ow_there (owE (fun _ _ => rfl) (ow1 q)) hC
  · have x2 : Ext G H _ _ σ env env := n1.ext (σ := σ) (env := env)
    exact ⟨x2.e1, x2.e2, x2.e3, x2.e4, fun b q => x2.e5 b (owE (fun _ _ => rfl) (ow1 q))⟩
  · rintro i m H2 hn
    obtain ⟨G2, e2, acc, out, E2, gC, oC, aC, dA, lA, x2, p2⟩ := (hN _ _ _).mp hn
    cases m with
    | zero => exact p2.elim
    | succ m =>
    unfold lcLoopV at p2
    split at p2
    case h_2 => exact p2.elim
    rename_i ds hds
    obtain ⟨xs, hx, hd, hl, hz⟩ := at_j E2 hds
    have sq : SqL mg.K H2 a xs := .of hx
    split at p2
    · -- the end
      rename_i hnone
      refine .inl ⟨⟨xs, sq, by rw [hl]; exact List.getElem?_eq_none_iff.mp hnone⟩, ?_⟩
      have p3 : Post B mg W (rV mg) G H σ env (.ok (.tmp (.ol (out ++ []))) (wipeE vs e2)) Q := p2
      rw [List.append_nil] at p3
      exact p3 G2 H2 (.ref C) (uw E2) ⟨C, rfl, ⟨gC, hC, acc, aC, dA⟩, oC⟩ x2
    · rename_i d hd'
      have hi : i < ds.length := (List.getElem?_eq_some_iff.mp hd').1
      have hix : i < xs.length := by omega
      refine .inr ⟨⟨xs, xs[i], sq, List.getElem?_eq_getElem hix⟩, N (i + 1) m, fun H' p' => ⟨m, Nat.lt_succ_self _, p'⟩, fun x H3 hy => ?_⟩
      obtain ⟨e3H, hyx⟩ := hy
      subst e3H
      obtain ⟨d', h1, dn⟩ := hd.get' (hyx xs sq)
      rw [hd'] at h1
      cases h1
      split at p2
      · exact p2.elim
      · rename_i e3 he3
        refine ig G2 _ (wipe σ vs) (wipeE vs e2) x d e3 _ E2 dn he3 fun σ4 E4 s4 o4 => ⟨wipe_ext s4 hsl, ?_⟩
        have l4 : σ4.length = σ.length := by rw [s4.1, wipe_length]
        have k4 : ∀ k, k ∉ vs → σ4[k]? = σ[k]? := fun k hk => by rw [s4.2 k fun z => hk (hsl k z), wipe_out hk]
        have oC4 : ¬ Ow σ4 e3 C := fun q => oC (ow2 (o4 C q))
        refine it G2 _ σ4 e3 _ E4 ?_
        generalize hmc : mc e3 = rc at p2
        cases rc with
        | exn c e => exact p2.elim
        | stuck => exact p2.elim
        | ok k e5 =>
          rw [Res.bindN_ok] at p2
          intro G5 H5 b E5 rb x5
          subst rb
          have aC5 : H5 C = some (.lst acc) := x5.e1 C _ aC oC4
          have gC5 : G5 C := x5.e4 C gC oC4
          have oC5 : ¬ Ow σ4 e5 C := fun q => oC4 (x5.e5 C q)
          have fz5 : Fz G2 _ G5 H5 := x5.fz E4
          have xs' : ∀ {G' : AP} {H' : Hp} {e : En}, Ext G2 _ G' H' σ4 e3 e → Ext G H G' H' σ env (wipeE vs e) := fun {G' H' e} z => by
            refine ⟨fun c o h nn => z.e1 c o (x2.e1 c o h nn) fun q => nn (x2.e5 c (ow2 (o4 c q))), fun c h => z.e2 c (x2.e2 c h), fun c h => ?_, fun c h nn => z.e4 c (x2.e4 c h nn) fun q => nn (x2.e5 c (ow2 (o4 c q))), fun c q => x2.e5 c (ow2 (o4 c (z.e5 c (owE k4 (ow1 q)))))⟩
            rcases z.e3 c h with q | q
            · exact x2.e3 c q
            · exact .inr (back_none x2.e2 q)
          cases b with
          | false =>
            rw [if_neg Bool.false_ne_true]
            exact (hN _ _ _).mpr ⟨G5, e5, acc, out, wp E5 l4 k4, gC5, fun q => oC5 (owE k4 (ow1 q)), aC5, dA.keep fz5, Nat.le_succ_of_le lA, xs' x5, p2⟩
          | true =>
            rw [if_pos rfl]
            refine ie G5 H5 σ4 e5 _ E5 ?_
            generalize hme : me e5 = re at p2
            cases re with
            | exn c e => exact p2.elim
            | stuck => exact p2.elim
            | ok y e6 =>
              intro G6 H6 v E6 rv x6
              rw [Res.bindN_ok] at p2
              generalize hti : toI np y e6 = rt at p2
              cases rt with
              | exn c e => exact p2.elim
              | stuck => exact p2.elim
              | ok dd e7 =>
                rw [Res.bindN_ok] at p2
                obtain ⟨G7, E7, dn7, x7, th7, ow7⟩ := toI_ok E5.gt E5.f2 E6 x6 rv hnp hti
                have aC7 : H6 C = some (.lst acc) := x6.e1 C _ aC5 oC5
                have gC7 : G7 C := x7.e4 C gC5 oC5
                have oC7 : ¬ Ow σ4 e7 C := fun q => oC5 (x7.e5 C q)
                refine ⟨acc, aC7, Nat.lt_of_le_of_lt lA (Nat.lt_of_lt_of_le hi hz), ?_⟩
                have hz2 : (acc ++ [v]).length ≤ sizeLine := by
                  rw [List.length_append, List.length_singleton]
                  omega
                have E8 := E7.poke (o' := .lst (acc ++ [v])) gC7 oC7 (E.dom0 hC) aC7 hz2
                have fz8 : Fz G7 H6 G7 (upd H6 C (.lst (acc ++ [v]))) := fun b u gb hb => ⟨by rw [upd_ne fun z => gb (by rw [z]; exact gC7)]; exact hb, gb⟩
                have fzA : Fz G2 _ G7 (upd H6 C (.lst (acc ++ [v]))) := (fz5.trans (x7.fz E5)).trans fz8
                have x9 := xs' (x5.trans x7)
                refine (hN _ _ _).mpr ⟨G7, e7, acc ++ [v], out ++ [dd], wp E8 l4 k4, gC7, fun q => oC7 (owE k4 (ow1 q)), upd_same, (dA.keep fzA).append (.cons (dn7.keep fz8) .nil), ?_, ?_, ?_⟩
                · rw [List.length_append, List.length_singleton]; omega
                · refine ⟨fun c o h nn => ?_, fun c h => ?_, x9.e3, x9.e4, x9.e5⟩
                  · rw [upd_ne fun z => by rw [z, hC] at h; cases h]
                    exact x9.e1 c o h nn
                  · by_cases e : c = C
                    · subst e; rw [upd_same]; simp
                    · rw [upd_ne e]; exact x9.e2 c h
                · generalize hlp : lcLoopV np vs j mt mc me m (i + 1) (wipeE vs e7) = rl at p2 ⊢
                  cases rl with
                  | exn c e => exact p2.elim
                  | stuck => exact p2.elim
                  | ok r e =>
                    have p3 : Post B mg W (rV mg) G H σ env (.ok (.tmp (.ol (out ++ dd :: r))) e) Q := p2
                    rw [Res.bindN_ok, List.append_assoc]
                    exact p3
section
variable {X : Cx} {W : WX} {B : Bs} {elt tg : Expr} {ifs : List Expr} {scope : Scope} {own : List (Str × Nat)} {pos spos py px : Pos} {np j : Nat} {vs sl : List Nat} {mt : MT} {mc : M Bool} {me : M Rf} {x : Str}
theorem xlcV (hc : X.calm = true) (hN : X.N.Nodup) (ok : BlkOk X.N X.env.scope scope own) (hg : ∀ b, XG (blkX X scope b) B tg sl mt) (ht : ∀ b, XTs (blkX X scope b) WF B ifs mc) (he : ∀ b, XE (blkX X scope b) WF B elt me)
    (hnp : B.np ≤ np) (hvs : ∀ v ∈ own.map (·.2), np ≤ v) (hsl : ∀ k ∈ sl, k ∈ own.map (·.2)) (hj : j ∉ own.map (·.2)) (hNj : X.N[j]? = some x := by rfl) (hv : Vis X.env.scope x := by first | exact Or.inl rfl | exact Or.inr (Or.inl rfl) | exact Or.inr (Or.inr rfl)) (hd : (x == ("__debug__" : Str)) = false := by decide)
    (hcd : (x == ("__classdict__" : Str)) = false := by decide) (hs : ∀ y, foldedSetIterable (.Name x px) X.env y = pure y := by intro _; rfl) :
    XE X W B (.ListComp elt [⟨tg, .Name x px, ifs, 0⟩] scope pos) (mLcV np (own.map (·.2)) j mt mc me) := by
  obtain ⟨g, pg, ig⟩ := uni_G (Xi := blkX X scope) (c := X.ct) (fun _ => rfl) hg
  obtain ⟨tt, pt, it⟩ := uni_T (Xi := blkX X scope) (c := X.ct) (fun _ => rfl) ht
  obtain ⟨te, pe, ie⟩ := uni_E (Xi := blkX X scope) (c := X.ct) (fun _ => rfl) he
  exact .by_ (pe_lc hc hN (pi_list (pe_var (i := j) hNj hv hd hcd)) ok (fun s H C cl fp => pg ⟨s, H, C, cl, fp⟩) (fun s H C cl fp => pt ⟨s, H, C, cl, fp⟩) (fun s H C cl fp => pe ⟨s, H, C, cl, fp⟩) hs) (imp_lcV hnp hvs hsl hj ig it ie)
end
end PL

set_option maxRecDepth 100000
/-! ### enumerate(tuple) -/
namespace PySem
open Sem (wp)
open AutoSeq1 (wpAny_loadPart')
set_option maxHeartbeats 1000000 in
theorem plt_enum_new {v : Value} {o : Obj} {H : Heap → Prop} (B : Begins v o H) :
    Meets (Builtin.«enumerate.__new__» ⟨[.type "enumerate", v], []⟩) (fun _ R s => H s.heap ∧
      R (.ok (.ret (.ref (s.heap.push o).objs.size))) { s with heap := (s.heap.push o).push { cls := .type "enumerate", data := .fields #[.none, .bool false, .ref s.heap.objs.size, rawInt 0, .none, .none] } }) :=
  .of_wp fun prog w A R s h => by
    obtain ⟨hp, g, d, tk, os⟩ := s; obtain ⟨h1, h⟩ := h
    have hsub := sub_enumerate
    have q1 : ∀ {A' : Around} {E : Value → Shared → Prop} {Q : Value → Shared → Prop}, Q (.ref hp.objs.size) ⟨hp.push o, g, d, tk, os⟩ → wpAny (model prog w) A' (pyIter v) Q E ⟨hp, g, d, tk, os⟩ :=
      fun q => B.iter prog w _ _ ⟨hp, g, d, tk, os⟩ _ h1 q
    wp_walk using q1
    refine wpAny_stack_any fun st => wpAny_pure ?_
    split
    · rename_i c _ _ _ _ _
      cases (c == Value.type "enumerate")
      · wp_walk using q1
        exact ⟨_, rfl, h⟩
      · wp_walk using q1
        exact ⟨_, rfl, h⟩
    · wp_walk using q1
      exact ⟨_, rfl, h⟩
section
variable {prog : Program} {w : World} {A : Around} {E : Value → Shared → Prop} {s : Shared}
theorem plt_call_enum {v : Value} {o : Obj} {H : Heap → Prop} {Q : Value → Shared → Prop} (B : Begins v o H) (h1 : H s.heap)
    (h : ∀ h', IsEnum h' (s.heap.objs.size + 1) s.heap.objs.size 0 .none → h'.get? s.heap.objs.size = some o → h'.objs.size = s.heap.objs.size + 2 →
      (∀ b o, s.heap.get? b = some o → h'.get? b = some o) → Q (.ref (s.heap.objs.size + 1)) { s with heap := h' }) :
    wpAny (model prog w) A (call (.type "enumerate") [v]) Q E s := by
  refine callType_new F.called_enumerate (by decide) (F.typeCall_enumerate_1 _) (F.newCall_enumerate_1 _) (fun obj => F.args_object_init_2 obj _) F.entry_enumerate_new
    (plt_enum_new B) ⟨h1, ?_⟩
  have hz : (s.heap.push o).objs.size = s.heap.objs.size + 1 := Heap.size_push ..
  show _ ∧ _
  rw [hz]
  have he : IsEnum ((s.heap.push o).push { cls := .type "enumerate", data := .fields #[.none, .bool false, .ref s.heap.objs.size, rawInt 0, .none, .none] }) (s.heap.objs.size + 1) s.heap.objs.size 0 .none := by
    have := Heap.get?_push_size (s.heap.push o) (o := { cls := .type "enumerate", data := .fields #[.none, .bool false, .ref s.heap.objs.size, rawInt 0, .none, .none] }) rfl
    rw [hz] at this; exact this
  refine ⟨⟨_, he, rfl⟩, h _ he (Heap.get?_push_of_some _ (Heap.get?_push_size _ B.free)) (by rw [Heap.size_push, hz]) fun b o x => Heap.get?_push_of_some _ (Heap.get?_push_of_some _ x)⟩
theorem plt_enum_end {e it t : Addr} {items : Array Value} {i : Int} {k : Nat} {old : Value} {Q : Option Value → Shared → Prop} (hh : A.handled = none)
    (he : IsEnum s.heap e it i old) (hit : s.heap.IsTupleIter it t k) (ht : s.heap.IsTuple t items) (hk : items.size ≤ k)
    (hQ : ∀ h', Heap.ExtBut it s.heap h' → Q none { s with heap := h' }) : wpAny (model prog w) A (pyNext (.ref e)) Q E s := by
  have hT : s.TypeIs (.ref e) "enumerate" := ⟨_, he, rfl⟩
  unfold pyNext
  refine wpAny_bind (wpAny_attempt (wpAny_callSpecial?_slot (name := Str.ofString "__next__") hT F.slot_enumerate_next
    (wpAny_call_entry F.slot_enumerate_next hT F.entry_enumerate_next ?_ (F.args_enumerate_next_1 _))))
  show wpAny _ _ (field (.ref e) 2 >>= _) _ _ _
  refine wpAny_bind (wpAny_field he rfl (x := .ref it) rfl ?_)
  refine wpAny_bind (wpAny_nextOf_tuple_end (A := A.in1) hh hit ht (Array.getElem?_eq_none hk) fun h' x he' hx' => ?_)
  obtain ⟨o, ho, hc⟩ := hx'
  refine wpAny_bind (wpAny_isInstance (T := "StopIteration") (b := true) ⟨o, ho, hc⟩ isSubtype_stop ?_)
  exact wpAny_pure (hQ _ he')
end
end PySem
namespace L2
open PySem PySem.Spec PyProof.Rows
def IteT (K : PySem.W.Frag) (a : Addr) : It :=
  ⟨fun i H => ∃ (xs : List V) (x : V), SqT K H a xs ∧ xs[i]? = some x, fun i H v H' => ∃ T x, v = .ref T ∧ H T = none ∧ H' = upd H T (.tup [.int (i : Nat), x]) ∧ ∀ xs, SqT K H a xs → xs[i]? = some x, fun i H => ∃ xs : List V, SqT K H a xs ∧ xs.length ≤ i⟩
theorem plt_turn {P : Program} {w : World} {K : PySem.W.Frag} {elts : List Expr} {kk : Nat} {tpos : Pos} (a e it : Addr) :
    Turn P w K (.Tuple elts kk tpos) (IteT K a) [e, it] e (fun i h => (∃ old, IsEnum h e it ((i : Nat) : Int) old) ∧ h.IsTupleIter it a i ∧ e ≠ it) where
  mem := by simp
  obj := fun i h st b hb => by
    obtain ⟨⟨old, he⟩, ⟨o, ho, hc, hd⟩, _⟩ := st
    have e' : b = e ∨ b = it := by simpa using hb
    rcases e' with z | z
    · rw [z]; exact ⟨_, he, fun v q => nomatch q⟩
    · rw [z]; exact ⟨o, ho, fun v q => by rw [hd] at q; cases q⟩
  keep := fun i h h' st k => let ⟨⟨old, he⟩, hi, hne⟩ := st; ⟨⟨old, k e (by simp) _ he⟩, hi.at fun o q => k it (by simp) o q, hne⟩
  item := by
    intro X hP hw hK hc i pins s σ H E I hf st hg
    subst hP hw hK
    obtain ⟨⟨old, he⟩, hit, hne⟩ := st
    obtain ⟨xs, x, hq, hx⟩ := hg
    obtain ⟨its, rv, p, hz⟩ := I.tuple hq
    obtain ⟨u, hu, ru⟩ := rv.get hx
    have hel : e < s.heap.objs.size := Heap.lt_size he
    have hil : it < s.heap.objs.size := by obtain ⟨_, q, _⟩ := hit; exact Heap.lt_size q
    have pt : s.heap.IsTuple a its.toArray := p
    have nai : a ≠ it := fun z => by
      obtain ⟨o, ho, hcl, _⟩ := hit
      obtain ⟨o', ho', hcl', _⟩ := pt
      rw [z, ho] at ho'
      cases ho'
      rw [hcl] at hcl'
      exact absurd hcl' (by decide)
    have nea : e ∉ [it, a] := fun hm => by
      simp only [List.mem_cons, List.not_mem_nil, or_false] at hm
      rcases hm with z | z
      · exact hne z
      · obtain ⟨o', ho', hcl', _⟩ := pt
        have he2 : s.heap.get? e = some { cls := .type "enumerate", dict := none, data := .fields #[.none, .bool false, .ref it, rawInt (i : Nat), .none, old], slots := #[] } := he
        rw [z, ho'] at he2
        have he3 := Option.some.inj he2
        rw [he3] at hcl'
        exact absurd (show Value.type "enumerate" = Value.type "tuple" from hcl') (by decide)
    have hlt : i < its.toArray.size := by
      have := (List.getElem?_eq_some_iff.mp hu).1
      simpa using this
    refine wpAny_pyNext_enum_itemD (Draws.tuple (A := X.A.in1) (I.ok.hd hc) it a nai its.toArray) he ⟨hit, pt⟩ hlt hne nea fun y h' tk hy ho hst' hT hsz hk => ?_
    have hyu : y = u := by
      have : its.toArray[i]? = some u := by simpa using hu
      rw [this] at hy
      exact (Option.some.inj hy).symm
    subst hyu
    refine ⟨_, rfl, wpAny_letOwnedTupleGo_enum (s := { s with heap := h', toks := tk + 1 }) ho fun h'' he' sb => ?_⟩
    have hT2 : h''.get? s.heap.objs.size = some { cls := .type "tuple", data := .seq #[.int i tk, y] } := (sb.2 _ (Nat.ne_of_gt hel)).trans hT
    have new : ObjOk X.prog X.w (upd H s.heap.objs.size (.tup [.int (i : Nat), x])) h'' s.heap.objs.size (.tup [.int (i : Nat), x]) :=
      ⟨by show 2 ≤ sizeLine; decide, [.int i tk, y], .cons ⟨_, rfl⟩ (.cons ru .nil), ⟨_, hT2, rfl, _, rfl⟩⟩
    have I1 : Inv X pins σ (upd H s.heap.objs.size (.tup [.int (i : Nat), x])) { s with heap := h'', toks := tk + 1 } :=
      I.turnedNew (ch := [e, it]) (fun b ob hb q => (sb.2 b (fun z => hb (by simp [z]))).trans (hk b ob (fun z => hb (by simp [z])) (fun z => hb (by simp [z])) q)) hf (Nat.le_refl _) new
    refine ⟨.ref s.heap.objs.size, _, I1, rfl, ⟨_, x, rfl, I.hok.fresh (Nat.le_refl _), rfl, fun ys hy => by rw [I.tuple_inj hy hq]; exact hx⟩, ⟨⟨y, ?_⟩, hst'.1.at fun o q => (sb.2 it (Ne.symm hne)).trans q, hne⟩, fun b hb => ?_⟩
    · have e1 : ((i + 1 : Nat) : Int) = (i : Int) + 1 := by omega
      rw [e1]; exact he'
    · have hb' : b < s.heap.objs.size := by
        have e' : b = e ∨ b = it := by simpa using hb
        rcases e' with z | z
        · rw [z]; exact hel
        · rw [z]; exact hil
      rw [upd_ne (Nat.ne_of_lt hb')]
      exact (hf b hb).1
  done := by
    intro X hP hw hK hc i pins s σ H E I hf st hg
    subst hP hw hK
    obtain ⟨⟨old, he⟩, hit, hne⟩ := st
    obtain ⟨xs, hq, hx⟩ := hg
    obtain ⟨its, rv, p, hz⟩ := I.tuple hq
    obtain ⟨f0, f1, f2, f3, f4, f5⟩ := hf it (by simp)
    have hl := rv.length
    have pt : s.heap.IsTuple a its.toArray := p
    have nai : a ≠ it := fun z => by
      obtain ⟨o, ho, hcl, _⟩ := hit
      obtain ⟨o', ho', hcl', _⟩ := pt
      rw [z, ho] at ho'
      cases ho'
      rw [hcl] at hcl'
      exact absurd hcl' (by decide)
    exact plt_enum_end (I.ok.hd hc) he hit pt (by simp; omega) fun h' eb => ⟨rfl, I.turned (t' := s.toks) (fun b o hb q => eb b o hb q) f0 f1 f3 f4 f5⟩
  self := fun A i s Q E st h => let ⟨⟨_, he⟩, _⟩ := st; wpAny_pyIter_enum he h
end L2
namespace L2
open PySem PySem.Spec PyProof.Rows
def iEnumT (K : PySem.W.Frag) (ta : TA) : TI := fun σ H R => ta σ H fun vs H1 => ∃ a xs, vs = [.ref a] ∧ SqT K H1 a xs ∧ R (IteT K a) H1
theorem pi_enumT {X : Cx} {e : Expr} {ta : TA} {p pos tpos : Pos} {elts : List Expr} {kk : Nat} (hg : Gl X "enumerate") (hm : X.mg "enumerate" = none) (ha : PA X [e] ta) (hs : starEach [e] X.env = [(false, eval e X.env)] := by rfl) :
    PI X (.Tuple elts kk tpos) (.Call (.Name "enumerate" p) [e] [] pos) (iEnumT X.K ta) := by
  refine ⟨fun pins s σ H R I h => ?_⟩
  refine Call_ (ld_blt I hg hm boot_enumerate (PyProof.Rows.callWith_type1 (thn (ha.run pos pins s σ H _ I h) fun us s1 ⟨vs, H1, I1, r1, q1⟩ => ?_) hs rfl))
  obtain ⟨a, xs, ex, hq, q⟩ := q1
  subst ex
  cases r1 with
  | cons r rr =>
    cases rr
    cases r
    obtain ⟨its, rv, p', hz⟩ := I1.tuple hq
    have p2 : s1.heap.IsTuple a its.toArray := p'
    refine plt_call_enum (begins_tuple a its.toArray) p2 fun h' he hit hsz hk => wpAny_pyIter_enum he ?_
    have I2 : Inv X pins σ H1 { s1 with heap := h' } := I1.kept (t' := s1.toks) hk
    refine ⟨s1.heap.objs.size + 1, [s1.heap.objs.size + 1, s1.heap.objs.size], _, _, H1, rfl, I2, plt_turn a (s1.heap.objs.size + 1) s1.heap.objs.size, ⟨⟨.none, he⟩, ⟨_, hit, rfl, rfl⟩, Nat.succ_ne_self _⟩, fun b hb => ?_, q⟩
    have e' : b = s1.heap.objs.size + 1 ∨ b = s1.heap.objs.size := by simpa using hb
    have hle : s1.heap.objs.size ≤ b := by
      rcases e' with z | z
      · rw [z]; exact Nat.le_add_right _ _
      · rw [z]; exact Nat.le_refl _
    exact I1.fpOk hle (I1.hok.fresh hle)
end L2
namespace PL
open PySem PySem.Spec PyProof.Rows L2
/-- the items with their places -/
def enumF (i : Nat) : List D → List D
  | [] => []
  | d :: ds => .tuple [.int (i : Nat), d] :: enumF (i + 1) ds
def enumD (ds : List D) : List D := enumF 0 ds
theorem enumF_length : ∀ (ds : List D) (i : Nat), (enumF i ds).length = ds.length
  | [], _ => rfl
  | d :: ds, i => by unfold enumF; rw [List.length_cons, List.length_cons, enumF_length]
theorem enumF_get : ∀ (ds : List D) (i j : Nat), (enumF i ds)[j]? = (ds[j]?).map fun d => .tuple [.int ((i + j : Nat) : Int), d]
  | [], i, j => by simp [enumF]
  | d :: ds, i, 0 => by simp [enumF]
  | d :: ds, i, j + 1 => by
    unfold enumF
    rw [List.getElem?_cons_succ, List.getElem?_cons_succ, enumF_get ds (i + 1) j, show i + 1 + j = i + (j + 1) by omega]
theorem enumD_get (ds : List D) (j : Nat) : (enumD ds)[j]? = (ds[j]?).map fun d => .tuple [.int (j : Nat), d] := by
  unfold enumD
  rw [enumF_get, Nat.zero_add]
def mEnum (np : Nat) (m : M Rf) : M (List D) := m.bind fun x => M.bind (toI np x) fun d env => match d with
  | .list ds => .ok (enumD ds) env
  | .tuple ds => .ok (enumD ds) env
  | _ => .stuck
section
variable {X : Cx} {W : WX} {B : Bs} {tg e a b c : Expr} {m ma mb mc : M Rf} {p pos : Pos} {np : Nat}
theorem enum_new {mg : MG} {G G1 : AP} {H H1 : Hp} {T : Addr} {x : V} {d : D} {i : Nat} (gt : ∀ b, G b → H b ≠ none) (hT : H T = none) (dn : Dn mg G1 H1 x d) (f : Fz G1 H1 G H) :
    New G H G (upd H T (.tup [.int (i : Nat), x])) ∧ Dn mg G (upd H T (.tup [.int (i : Nat), x])) (.ref T) (.tuple [.int (i : Nat), d]) := by
  have n := New.upd (o := .tup [.int (i : Nat), x]) gt hT (show 2 ≤ sizeLine by decide)
  exact ⟨n, .tup (fun g => gt T g hT) upd_same (.cons (.int i) (.cons ((dn.keep f).keep n.fz) .nil))⟩
theorem walks_enumL {mg : MG} {G1 : AP} {H1 : Hp} {a : Addr} {ds : List D} (h : Dn mg G1 H1 (.ref a) (.list ds)) (lb : LB G1 H1) : Walks mg G1 H1 (Ite mg.K a) (enumD ds) ∧ ∃ xs, SqL mg.K H1 a xs := by
  have key : ∃ xs, DnA mg G1 H1 xs ds ∧ xs.length ≤ sizeLine ∧ ∀ G H, Fz G1 H1 G H → SqL mg.K H a xs := by
    cases h with
    | lst g r d => exact ⟨_, d, lb.1 a _ (.inr (.inl r)), fun G H f => .of (f _ _ g r).1⟩
  obtain ⟨xs, hd, ln, sq⟩ := key
  have le : (enumD ds).length = ds.length := enumF_length ds 0
  refine ⟨⟨fun G H i f hi => ?_, fun G H i x H' f gt _ _ hy => ?_, fun G H i f hi => ⟨xs, sq G H f, by rw [hd.length]; omega⟩, by rw [le, ← hd.length]; exact ln⟩, xs, sq G1 H1 Fz.refl⟩
  · have hx : i < xs.length := by rw [hd.length]; omega
    exact ⟨xs, xs[i], sq G H f, List.getElem?_eq_getElem hx⟩
  · obtain ⟨T, y, rfl, hT, rfl, hy⟩ := hy
    obtain ⟨d, h1, h2⟩ := hd.get' (hy xs (sq G H f))
    obtain ⟨n, dn⟩ := enum_new (i := i) gt hT h2 f
    exact ⟨_, by rw [enumD_get, h1]; rfl, n, dn⟩
theorem walks_enumT {mg : MG} {G1 : AP} {H1 : Hp} {a : Addr} {ds : List D} (h : Dn mg G1 H1 (.ref a) (.tuple ds)) (lb : LB G1 H1) : Walks mg G1 H1 (IteT mg.K a) (enumD ds) ∧ ∃ xs, SqT mg.K H1 a xs := by
  cases h with
  | @tup _ xs _ g r hd =>
    have sq : ∀ G H, Fz G1 H1 G H → SqT mg.K H a xs := fun G H f => .of (f _ _ g r).1
    have le : (enumD ds).length = ds.length := enumF_length ds 0
    refine ⟨⟨fun G H i f hi => ?_, fun G H i x H' f gt _ _ hy => ?_, fun G H i f hi => ⟨xs, sq G H f, by rw [hd.length]; omega⟩, by rw [le, ← hd.length]; exact lb.1 a _ (.inl r)⟩, xs, sq G1 H1 Fz.refl⟩
    · have hx : i < xs.length := by rw [hd.length]; omega
      exact ⟨xs, xs[i], sq G H f, List.getElem?_eq_getElem hx⟩
    · obtain ⟨T, y, rfl, hT, rfl, hy⟩ := hy
      obtain ⟨d, h1, h2⟩ := hd.get' (hy xs (sq G H f))
      obtain ⟨n, dn⟩ := enum_new (i := i) gt hT h2 f
      exact ⟨_, by rw [enumD_get, h1]; rfl, n, dn⟩
/-- enumerate of a list or a tuple -/
theorem xi_enum {elts : List Expr} {kk : Nat} {tpos : Pos} (hnp : B.np ≤ np) (hm : X.mg "enumerate" = none) (h : XE X W B e m) (hg : Gl X "enumerate" := by rfl) (hs : starEach [e] X.env = [(false, eval e X.env)] := by rfl) :
    XI X W B (.Tuple elts kk tpos) (.Call (.Name "enumerate" p) [e] [] pos) (mEnum np m) := by
  obtain ⟨⟨t, pt, it⟩⟩ := h
  have pa : PA X [e] (tCons t tNil) := pa_cons pt pa_nil (by rw [hs]; rfl)
  refine ⟨⟨_, PI.or (pi_enum hg hm pa hs) (pi_enumT hg hm pa hs), fun G H σ env R E p => ?_⟩⟩
  have go : ∀ (K : V → Hp → Prop), (∀ v a G2 H2 env2 d ds, ER B X.ct G2 H2 σ env2 → v = .ref a → (d = .list ds ∨ d = .tuple ds) → Dn X.ct G2 H2 v d → Ext G H G2 H2 σ env env2 → Post B X.ct W (rI X.ct) G H σ env (.ok (enumD ds) env2) R → (∃ env1 x, m env = .ok x env1 ∧ toI np x env1 = .ok d env2) → ∀ H1, H1 = H2 → K v H1) → t σ H K := fun K k => by
    refine it.run E Ext.refl p fun v x env1 G1 H1 hm E1 r1 _ x1 p => ?_
    obtain ⟨d, env2, h2, p⟩ := Post.inv p toI_nox
    obtain ⟨G2, E2, dn, x2, _, _⟩ := toI_ok E.gt E.f2 E1 x1 r1 hnp h2
    split at p
    · rename_i ds
      have hv : ∃ a, v = .ref a := by cases dn <;> exact ⟨_, rfl⟩
      obtain ⟨a, rfl⟩ := hv
      exact k _ a G2 H1 env2 _ ds E2 rfl (.inl rfl) dn x2 p ⟨env1, x, hm, h2⟩ H1 rfl
    · rename_i ds
      have hv : ∃ a, v = .ref a := by cases dn <;> exact ⟨_, rfl⟩
      obtain ⟨a, rfl⟩ := hv
      exact k _ a G2 H1 env2 _ ds E2 rfl (.inr rfl) dn x2 p ⟨env1, x, hm, h2⟩ H1 rfl
    · exact p.elim
  by_cases hl : ∃ env1 x ds env2, m env = .ok x env1 ∧ toI np x env1 = .ok (.list ds) env2
  · refine .inl (go _ fun v a G2 H2 env2 d ds E2 hv hd dn x2 p hm H1 e => ?_)
    subst hv e
    obtain ⟨e1, x, ds', e2, q1, q2⟩ := hl
    obtain ⟨e1', x', q1', q2'⟩ := hm
    rw [q1] at q1'
    cases q1'
    rw [q2] at q2'
    cases q2'
    rcases hd with hd | hd
    · cases hd
      obtain ⟨w, xs, sq⟩ := walks_enumL dn E2.lb
      exact ⟨a, xs, rfl, sq, p G2 _ _ E2 w x2⟩
    · cases hd
  · refine .inr (go _ fun v a G2 H2 env2 d ds E2 hv hd dn x2 p hm H1 e => ?_)
    subst hv e
    obtain ⟨e1', x', q1', q2'⟩ := hm
    rcases hd with hd | hd
    · subst hd
      exact absurd ⟨_, _, _, _, q1', q2'⟩ hl
    · subst hd
      obtain ⟨w, xs, sq⟩ := walks_enumT dn E2.lb
      exact ⟨a, xs, rfl, sq, p G2 _ _ E2 w x2⟩
/-! ### range(a, b, -1) -/
def downD (lo : Int) (n : Nat) : List D := (List.range n).map fun i => .int (lo + (i : Nat) * (-1))
theorem walks_down {mg : MG} {G1 : AP} {H1 : Hp} {lo : Int} {n : Nat} (hn : n ≤ sizeLine) : Walks mg G1 H1 (Itc lo (-1) n) (downD lo n) := by
  have hl : (downD lo n).length = n := by unfold downD; rw [List.length_map, List.length_range]
  refine ⟨fun G H i f hi => by rw [hl] at hi; exact hi, fun G H i x H' f gt _ hi hy => ?_, fun G H i f hi => by rw [hl] at hi; exact hi, by rw [hl]; exact hn⟩
  obtain ⟨rfl, rfl⟩ := hy
  rw [hl] at hi
  exact ⟨.int (lo + (i : Nat) * (-1)), by unfold downD; rw [List.getElem?_map, List.getElem?_range hi]; rfl, New.refl gt, .int _⟩
def mRngD (ma mb mc : M Rf) : M (List D) := ma.bind fun x => mb.bind fun y => mc.bind fun z env => match x, y, z with
  | .im (.int i), .im (.int j), .im (.int k) => if ((-1000000 ≤ i ∧ i ≤ 1000000) ∧ (-1000000 ≤ j ∧ j ≤ 1000000)) ∧ k = -1 then .ok (downD i (i - j).toNat) env else .stuck
  | _, _, _ => .stuck
theorem xi_rngD (hm : X.mg "range" = none) (ha : XE X W B a ma) (hb : XE X W B b mb) (hc : XE X W B c mc) (hg : Gl X "range" := by rfl) (hs : starEach [a, b, c] X.env = (false, eval a X.env) :: starEach [b, c] X.env := by rfl) (hs2 : starEach [b, c] X.env = (false, eval b X.env) :: starEach [c] X.env := by rfl)
    (hs3 : starEach [c] X.env = (false, eval c X.env) :: starEach [] X.env := by rfl) (hpl : (backTo pos (starEach [b, c] X.env)).any (·.1) = false := by rfl) :
    XI X W B tg (.Call (.Name "range" p) [a, b, c] [] pos) (mRngD ma mb mc) := by
  obtain ⟨⟨t, pt, it⟩⟩ := ha
  obtain ⟨⟨u, pu, iu⟩⟩ := hb
  obtain ⟨⟨w, pw, iw⟩⟩ := hc
  refine ⟨⟨_, pi_range3 hg hm (pa_cons pt (pa_cons pu (pa_cons pw pa_nil hs3) hs2) hs) hs hpl, fun G H σ env R E q => ?_⟩⟩
  refine it.run E Ext.refl q fun v x env1 G1 H1 hm1 E1 r1 _ x1 q => ?_
  refine iu.run E1 x1 q fun v' y env2 G2 H2 hm2 E2 r2 e2 x2 q => ?_
  refine iw.run E2 x2 q fun v'' z env3 G3 H3 hm3 E3 r3 e3 x3 q => ?_
  split at q
  · rename_i i j k _ _
    split at q
    · rename_i hj
      obtain ⟨hj, rfl⟩ := hj
      have r1 : Dn X.ct G1 H1 v (.int i) := r1
      have r2 : Dn X.ct G2 H2 v' (.int j) := r2
      have r3 : Dn X.ct G3 H3 v'' (.int (-1)) := r3
      cases r1
      cases r2
      cases r3
      exact ⟨i, j, -1, (i - j).toNat, rfl, RgC.neg (by omega) (by omega) (by omega) (by omega), q G3 H3 _ E3 (walks_down (small_le (by omega))) x3⟩
    · exact q.elim
  · exact q.elim
end
end PL

set_option maxRecDepth 100000
namespace PL
open PySem PySem.Spec PyProof.Rows L2

/-! ### a, b, c, .. = e, f, g, .. by a new tuple -/
structure XN (X : Cx) (tgs : List Expr) (is : List Nat) : Prop where
  ex : ∃ t : TGs, PGs X tgs t ∧ ∀ vs σ H Q, vs.length = is.length → Q (setAll σ is vs) H → t vs σ H Q
section
variable {X : Cx} {W : WX} {B : Bs} {a b c e tg : Expr} {es tgs : List Expr} {ms : M (List Rf)} {np : Nat} {pos pt pt2 : Pos} {is : List Nat}
theorem xn0 : XN X [] [] := ⟨⟨_, pgs_nil, fun vs σ H Q hl q => by
  cases vs with
  | nil => exact ⟨rfl, q⟩
  | cons _ _ => cases hl⟩⟩
theorem xn {i : Nat} {x : Str} (hr : XN X tgs is) (hN : X.N.Nodup) (hi : X.N[i]? = some x := by rfl) (hx : Loc X.env.scope x := by first | exact .inl rfl | exact .inr rfl) (hf : X.fn x = true ∨ X.env.scope.names.lookup x = some .local := by first | exact .inl rfl | exact .inr rfl)
    (hs : (assignEach (.Name x pos :: tgs) X.env).map (·.2) = assign (.Name x pos) X.env :: (assignEach tgs X.env).map (·.2) := by rfl) : XN X (.Name x pos :: tgs) (i :: is) := by
  obtain ⟨⟨u, pu, iu⟩⟩ := hr
  refine ⟨⟨_, pgs_cons (pg_name hN hi hx hf) pu hs, fun vs σ H Q hl q => ?_⟩⟩
  cases vs with
  | nil => cases hl
  | cons v vs => exact ⟨v, vs, rfl, iu vs _ H Q (by simpa using hl) q⟩
theorem SsR.new {mg : MG} {G G' : AP} {H H' : Hp} {σ : St} {env : En} (n : New G H G' H') : ∀ {vs : List V} {ss : List Sl}, SsR mg B G H σ env vs ss → SsR mg B G' H' σ env vs ss
  | _, _, .nil => .nil
  | _, _, .cons a b c d => .cons (a.new n) b c (SsR.new n d)
theorem xs_parT {k k2 : Nat} (h : XA X W B es ms) (hg : XN X tgs is) (hnp : B.np ≤ np) (hc : X.calm = true) (hl : ∀ env xs env', ms env = .ok xs env' → xs.length = is.length) (hz : is.length ≤ sizeLine)
    (hn : (assignEach tgs X.env).length = is.length := by rfl) (hst : (assignEach tgs X.env).findIdx? (·.1) = none := by rfl)
    (hs : swapsWithSole [.Tuple tgs k pt] (.Tuple es k2 pt2) pos.line X.env = pure false := by rfl) (hw : swappedStores [.Tuple tgs k pt] (.Tuple es k2 pt2) X.env = pure none := by rfl)
    (h1 : (assignEach [.Tuple tgs k pt] X.env).map (·.2) = [assign (.Tuple tgs k pt) X.env] := by rfl) : XS X W B (.Assign [.Tuple tgs k pt] (.Tuple es k2 pt2) pos) (sPar np is ms) := by
  obtain ⟨⟨t, pt, it⟩⟩ := h
  obtain ⟨⟨u, pu, iu⟩⟩ := hg
  refine ⟨⟨_, ps_asg (pe_tup pt) (pg_tup hc pu hn hst) hs hw h1, fun G H σ env D E p => ?_⟩⟩
  refine it.runS E p fun vs xs env1 G1 H1 hm E1 r1 x1 p => ?_
  have hv : vs.length = is.length := by rw [r1.length]; exact hl _ _ _ hm
  obtain ⟨ss, e2, h2, p⟩ := PostS.inv p toSs_nox
  obtain ⟨G2, E2, sr, x2, fz2, _⟩ := toSs_ok E.gt E.f2 hnp E1 x1 r1 h2
  have hz' : vs.length ≤ sizeLine := by rw [hv]; exact hz
  refine ⟨hz', fun q hq => ?_⟩
  have n := New.upd (o := .tup vs) E2.gt hq hz'
  exact ⟨q, vs, rfl, .of upd_same, hv, iu vs σ _ _ hv (storeAll_ok hnp (E2.new n) (sr.new n) (((x1.fz E).trans fz2).trans n.fz) p)⟩
theorem Many.len' {n : Nat} {ms : M (List Rf)} (h : Many n ms) {is : List Nat} (hi : is.length = n) : ∀ env xs env', ms env = .ok xs env' → xs.length = is.length := fun env xs e q => by rw [h.len _ _ _ q, hi]
end

/-! ### y = [e for .. for ..] -/
section
variable {X : Cx} {W : WX} {B : Bs} {elt tg iter tg1 iter1 : Expr} {ifs ifs1 : List Expr} {scope : Scope} {own : List (Str × Nat)} {pos spos py : Pos} {np : Nat} {vs vs1 sl sl1 : List Nat} {mi mi1 : M (List D)} {mt mt1 : MT} {mc mc1 : M Bool} {me : M Rf}
theorem xs_setLc2 {i : Nat} {y : Str} (hc : X.calm = true) (hN : X.N.Nodup) (hi : XI X W B tg iter mi) (ok : BlkOk X.N X.env.scope scope own) (hg : ∀ b, XG (blkX X scope b) B tg sl mt) (ht : ∀ b, XTs (blkX X scope b) WF B ifs mc)
    (hi1 : ∀ b, XI (blkX X scope b) WF B tg1 iter1 mi1) (hg1 : ∀ b, XG (blkX X scope b) B tg1 sl1 mt1) (ht1 : ∀ b, XTs (blkX X scope b) WF B ifs1 mc1) (he : ∀ b, XE (blkX X scope b) WF B elt me)
    (hnp : B.np ≤ np) (hvs : ∀ v ∈ own.map (·.2), np ≤ v) (hsl : ∀ k ∈ sl, k ∈ own.map (·.2)) (hv1 : ∀ i ∈ vs1, i ∈ own.map (·.2)) (hsl1 : ∀ k ∈ sl1, k ∈ vs1) (hsw : swapsWith (.ListComp elt [⟨tg, iter, ifs, 0⟩, ⟨tg1, iter1, ifs1, 0⟩] scope pos) (some (.Name y py)) spos.line X.env = pure true)
    (hy : X.N[i]? = some y := by rfl) (hyl : X.env.scope.names.lookup y = some .local := by rfl) (hs : ∀ x, foldedSetIterable iter X.env x = pure x := by intro _; rfl) (hs1 : ∀ env x, foldedSetIterable iter1 env x = pure x := by intro _ _; rfl) :
    XS X W B (.Assign [.Name y py] (.ListComp elt [⟨tg, iter, ifs, 0⟩, ⟨tg1, iter1, ifs1, 0⟩] scope pos) spos) (sSet np i (mLc2 np (own.map (·.2)) vs1 mi mt mc mi1 mt1 mc1 me)) := by
  obtain ⟨⟨wi, pi, ii⟩⟩ := hi
  obtain ⟨g, pg, ig⟩ := uni_G (Xi := blkX X scope) (c := X.ct) (fun _ => rfl) hg
  obtain ⟨tt, pt, it⟩ := uni_T (Xi := blkX X scope) (c := X.ct) (fun _ => rfl) ht
  obtain ⟨wi1, pi1, ii1⟩ := uni_I (Xi := blkX X scope) (c := X.ct) (fun _ => rfl) hi1
  obtain ⟨g1, pg1, ig1⟩ := uni_G (Xi := blkX X scope) (c := X.ct) (fun _ => rfl) hg1
  obtain ⟨tt1, pt1, it1⟩ := uni_T (Xi := blkX X scope) (c := X.ct) (fun _ => rfl) ht1
  obtain ⟨te, pe, ie⟩ := uni_E (Xi := blkX X scope) (c := X.ct) (fun _ => rfl) he
  have im := imp_lc2 (W := W) hnp hvs (fun v hv => hvs v (hv1 v hv)) hsl hsl1 ii ig it ii1 ig1 it1 ie
  refine ⟨⟨_, ps_setLc2 (i := i) hc hN hy hyl hsw pi ok hv1 (fun s H C cl fp => pg ⟨s, H, C, cl, fp⟩) (fun s H C cl fp => pt ⟨s, H, C, cl, fp⟩) (fun s H C cl fp => pi1 ⟨s, H, C, cl, fp⟩) (fun s H C cl fp => pg1 ⟨s, H, C, cl, fp⟩) (fun s H C cl fp => pt1 ⟨s, H, C, cl, fp⟩) (fun s H C cl fp => pe ⟨s, H, C, cl, fp⟩) hs hs1, fun G H σ env D E p => ?_⟩⟩
  have p : PostS B X.ct W G H ((mLc2 np (own.map (·.2)) vs1 mi mt mc mi1 mt1 mc1 me env).toSR fun x e => (toS np x e).toSR fun s e => sStore np i s e) D := by
    have q : ((mLc2 np (own.map (·.2)) vs1 mi mt mc mi1 mt1 mc1 me env).bind (toS np)).toSR (fun s e => sStore np i s e) = (mLc2 np (own.map (·.2)) vs1 mi mt mc mi1 mt1 mc1 me env).toSR fun x e => (toS np x e).toSR fun s e => sStore np i s e := by cases mLc2 np (own.map (·.2)) vs1 mi mt mc mi1 mt1 mc1 me env <;> rfl
    rw [← q]; exact p
  refine im.runS E p fun x y env1 G1 H1 _ E1 r1 x1 p => ?_
  obtain ⟨s, e2, h2, p⟩ := PostS.inv p toS_nox
  obtain ⟨G2, E2, sr, _, hs, _, fz2⟩ := toS_ok E.gt E.f2 E1 x1 r1 hnp h2
  exact post_store E2 hnp sr hs ((x1.fz E).trans fz2) p
end
end PL

set_option maxRecDepth 100000
namespace PL
open PySem PySem.Spec PyProof.Rows L2

/-! ### dicts, read -/
def unK : D → Option Key
  | .int i => some (.inl i)
  | .str x => some (.inr x)
  | _ => none
theorem unK_kD (k : Key) : unK (kD k) = some k := by cases k <;> rfl
def unT : List D → Option (List Key)
  | [] => some []
  | d :: ds => match unK d, unT ds with
    | some k, some ks => some (k :: ks)
    | _, _ => none
theorem unT_map : ∀ ks : List Key, unT (ks.map kD) = some ks
  | [] => rfl
  | k :: ks => by
    rw [List.map_cons]
    unfold unT
    rw [unK_kD, unT_map ks]
def unPK : List (D × D) → Option (List (Key × D))
  | [] => some []
  | (k, d) :: ps => match unK k, unPK ps with
    | some k, some r => some ((k, d) :: r)
    | _, _ => none
theorem unPK_map : ∀ kvs : List (Key × D), unPK (kvs.map fun p => (kD p.1, p.2)) = some kvs
  | [] => rfl
  | (k, d) :: kvs => by
    rw [List.map_cons]
    unfold unPK
    rw [unPK_map kvs, unK_kD]
def unPT : List (D × D) → Option (List (List Key × D))
  | [] => some []
  | (.tuple ks, d) :: ps => (match unT ks, unPT ps with
    | some k, some r => some ((k, d) :: r)
    | _, _ => none)
  | _ => none
theorem unPT_map : ∀ kvs : List (List Key × D), unPT (kvs.map fun p => (.tuple (p.1.map kD), p.2)) = some kvs
  | [] => rfl
  | (k, d) :: kvs => by
    rw [List.map_cons]
    unfold unPT
    dsimp only
    rw [unPT_map kvs, unT_map]
inductive DV where
  | k (kvs : List (Key × D)) | t (kvs : List (List Key × D))
def asD : Sl → Option DV
  | .odk kvs => some (.k kvs)
  | .odt kvs => some (.t kvs)
  | .im (.dict ((.bool false, .none) :: ps)) => (unPK ps).map .k
  | .im (.dict ((.bool true, .none) :: ps)) => (unPT ps).map .t
  | _ => none
theorem asD_dk (kvs : List (Key × D)) : asD (.im (dkD kvs)) = some (.k kvs) := by
  show (unPK _).map DV.k = _
  rw [unPK_map]
  rfl
theorem asD_dt (kvs : List (List Key × D)) : asD (.im (dtD kvs)) = some (.t kvs) := by
  show (unPT _).map DV.t = _
  rw [unPT_map]
  rfl
def valD {κ : Type} [DecidableEq κ] (kvs : List (κ × D)) (k : κ) : Option D := (kvs.find? fun kv => decide (kv.1 = k)).map (·.2)
def putD {κ : Type} [DecidableEq κ] (kvs : List (κ × D)) (k : κ) (v : D) : List (κ × D) :=
  if (kvs.any fun kv => decide (kv.1 = k)) = true then kvs.map (fun kv => if kv.1 = k then (kv.1, v) else kv) else kvs ++ [(k, v)]
def keyS : Sl → Option Key
  | .im d => unK d
  | _ => none
def keyT : Sl → Option (List Key)
  | .im (.tuple ds) => unT ds
  | _ => none
def dGet (sd sk : Sl) : Option (Option D) := match asD sd with
  | some (.k kvs) => (keyS sk).map (valD kvs)
  | some (.t kvs) => (keyT sk).map (valD kvs)
  | none => none
section
variable {mg : MG} {G G' : AP} {H H' : Hp}
theorem KvR.of {κ : Type} : ∀ {ks : List (κ × V)} {kvs : List (κ × D)}, ks.map (·.1) = kvs.map (·.1) → DnA mg G H (ks.map (·.2)) (kvs.map (·.2)) → KvR mg G H ks kvs
  | [], [], _, _ => .nil
  | [], _ :: _, e, _ => by cases e
  | _ :: _, [], e, _ => by cases e
  | p :: ks, q :: kvs, e, h => by
    rw [List.map_cons, List.map_cons] at e h
    cases h with
    | cons a b =>
      obtain ⟨h1, h2⟩ := List.cons.inj e
      exact .cons ⟨h1, a⟩ (KvR.of h2 b)
theorem KvR.keep {κ : Type} {ks : List (κ × V)} {kvs : List (κ × D)} (f : Fz G H G' H') (h : KvR mg G H ks kvs) : KvR mg G' H' ks kvs := Paired.mapD (fun _ _ z => ⟨z.1, z.2.keep f⟩) h
theorem asD_k {v : V} {s : Sl} {kvs : List (Key × D)} (h : VR mg G H v s) (e : asD s = some (.k kvs)) : ∃ a ks, v = .ref a ∧ Rd H a (.dK ks) ∧ KvR mg G H ks kvs := by
  unfold asD at e
  split at e
  · cases e
    obtain ⟨a, rfl, ks, h1, h2⟩ := h
    exact ⟨a, ks, rfl, .inl h1, h2⟩
  · cases e
  · rename_i ps
    obtain ⟨r, e1, e2⟩ := Option.map_eq_some_iff.mp e
    cases e2
    have h : Dn mg G H v (.dict ((.bool false, .none) :: ps)) := h
    cases h with
    | @dk a ks kvs' _ g r k d z =>
      rw [z, unPK_map] at e1
      cases e1
      exact ⟨a, ks, rfl, r, .of k d⟩
  · rename_i ps
    obtain ⟨r, e1, e2⟩ := Option.map_eq_some_iff.mp e
    cases e2
  · cases e
theorem asD_t {v : V} {s : Sl} {kvs : List (List Key × D)} (h : VR mg G H v s) (e : asD s = some (.t kvs)) : ∃ a ks, v = .ref a ∧ Rd H a (.dT ks) ∧ KvR mg G H ks kvs := by
  unfold asD at e
  split at e
  · cases e
  · cases e
    obtain ⟨a, rfl, ks, h1, h2⟩ := h
    exact ⟨a, ks, rfl, .inl h1, h2⟩
  · rename_i ps
    obtain ⟨r, e1, e2⟩ := Option.map_eq_some_iff.mp e
    cases e2
  · rename_i ps
    obtain ⟨r, e1, e2⟩ := Option.map_eq_some_iff.mp e
    cases e2
    have h : Dn mg G H v (.dict ((.bool true, .none) :: ps)) := h
    cases h with
    | @dt a ks kvs' _ g r k d z =>
      rw [z, unPT_map] at e1
      cases e1
      exact ⟨a, ks, rfl, r, .of k d⟩
  · cases e
/-- what a get finds -/
def GotR (mg : MG) (G : AP) (H : Hp) (ov : Option V) : Option D → Prop
  | none => ov = none
  | some d => ∃ x, ov = some x ∧ Dn mg G H x d
theorem KvR.val {κ : Type} [DecidableEq κ] {ks : List (κ × V)} {kvs : List (κ × D)} (h : KvR mg G H ks kvs) (k : κ) : GotR mg G H (valV ks k) (valD kvs k) := by
  induction h with
  | nil => exact rfl
  | @cons p q ps qs h t ih =>
    by_cases e : p.1 = k
    · have e' : q.1 = k := h.1.symm.trans e
      have b : valD (q :: qs) k = some q.2 := by simp [valD, List.find?_cons, e']
      rw [valV_pos e, b]
      exact ⟨_, rfl, h.2⟩
    · have e' : ¬ q.1 = k := fun z => e (h.1.trans z)
      have b : valD (q :: qs) k = valD qs k := by simp [valD, List.find?_cons, e']
      rw [valV_neg e, b]
      exact ih
theorem KvR.any {κ : Type} [DecidableEq κ] {ks : List (κ × V)} {kvs : List (κ × D)} (h : KvR mg G H ks kvs) (k : κ) : (ks.any fun kv => decide (kv.1 = k)) = kvs.any fun kv => decide (kv.1 = k) := by
  induction h with
  | nil => rfl
  | cons h t ih => simp only [List.any_cons, ih, h.1]
theorem KvR.repl {κ : Type} [DecidableEq κ] {ks : List (κ × V)} {kvs : List (κ × D)} (h : KvR mg G H ks kvs) (k : κ) {v : V} {d : D} (q : Dn mg G H v d) :
    KvR mg G H (ks.map fun kv => if kv.1 = k then (kv.1, v) else kv) (kvs.map fun kv => if kv.1 = k then (kv.1, d) else kv) := by
  induction h with
  | nil => exact .nil
  | @cons p r ps qs h t ih =>
    rw [List.map_cons, List.map_cons]
    refine .cons ?_ ih
    by_cases e : p.1 = k
    · rw [if_pos e, if_pos (h.1.symm.trans e)]; exact ⟨h.1, q⟩
    · rw [if_neg e, if_neg fun z => e (h.1.trans z)]; exact h
theorem KvR.snoc {κ : Type} {ks : List (κ × V)} {kvs : List (κ × D)} (h : KvR mg G H ks kvs) (k : κ) {v : V} {d : D} (q : Dn mg G H v d) : KvR mg G H (ks ++ [(k, v)]) (kvs ++ [(k, d)]) := by
  induction h with
  | nil => exact .cons ⟨rfl, q⟩ .nil
  | cons h t ih => exact .cons h ih
theorem KvR.put {κ : Type} [DecidableEq κ] {ks : List (κ × V)} {kvs : List (κ × D)} (h : KvR mg G H ks kvs) (k : κ) {v : V} {d : D} (q : Dn mg G H v d) : KvR mg G H (putK ks k v) (putD kvs k d) := by
  unfold putK putD
  rw [h.any k]
  split
  · exact KvR.repl h k q
  · exact KvR.snoc h k q
theorem dn_key {y : V} {d : D} {k : Key} (h : Dn mg G H y d) (e : unK d = some k) : y = kV k := by
  cases d <;> first | (cases e; done) | (cases e; cases h; rfl)
theorem dn_keys : ∀ {xs : List V} {ds : List D} {ks : List Key}, DnA mg G H xs ds → unT ds = some ks → xs = ks.map kV
  | _, _, _, .nil, e => by cases e; rfl
  | _, _, _, .cons a b, e => by
    unfold unT at e
    split at e
    · rename_i k ks h1 h2
      cases e
      rw [List.map_cons, dn_key a h1, dn_keys b h2]
    · cases e
theorem key_s {y : V} {s : Sl} {k : Key} (h : VR mg G H y s) (e : keyS s = some k) : y = kV k := by
  cases s <;> first | (cases e; done) | exact dn_key (show Dn mg G H y _ from h) e
theorem key_t {y : V} {s : Sl} {k : List Key} (h : VR mg G H y s) (e : keyT s = some k) : ∃ b, y = .ref b ∧ H b = some (.tup (k.map kV)) := by
  unfold keyT at e
  split at e
  · rename_i ds
    obtain ⟨b, xs, rfl, g, hb, dn⟩ := tup_of (show Dn mg G H y (.tuple ds) from h)
    exact ⟨b, rfl, by rw [hb, dn_keys dn e]⟩
  · cases e
theorem dget_ok {x y : V} {sd sk : Sl} {o : Option D} (hx : VR mg G H x sd) (hy : VR mg G H y sk) (e : dGet sd sk = some o) : ∃ a ov, x = .ref a ∧ DGet H a y ov ∧ GotR mg G H ov o := by
  unfold dGet at e
  split at e
  · rename_i kvs h1
    obtain ⟨k, h2, rfl⟩ := Option.map_eq_some_iff.mp e
    obtain ⟨a, ks, rfl, r, kr⟩ := asD_k hx h1
    exact ⟨a, _, rfl, .inl ⟨ks, k, r, key_s hy h2, rfl⟩, kr.val k⟩
  · rename_i kvs h1
    obtain ⟨k, h2, rfl⟩ := Option.map_eq_some_iff.mp e
    obtain ⟨a, ks, rfl, r, kr⟩ := asD_t hx h1
    obtain ⟨b, rfl, hb⟩ := key_t hy h2
    exact ⟨a, _, rfl, .inr ⟨ks, k, b, r, rfl, hb, rfl⟩, kr.val k⟩
  · cases e
theorem isd_ok {x : V} {sd : Sl} {o : DV} (hx : VR mg G H x sd) (e : asD sd = some o) : ∃ a, x = .ref a ∧ IsD H a := by
  cases o with
  | k kvs =>
    obtain ⟨a, ks, rfl, r, _⟩ := asD_k hx e
    exact ⟨a, rfl, .inl ⟨_, r⟩⟩
  | t kvs =>
    obtain ⟨a, ks, rfl, r, _⟩ := asD_t hx e
    exact ⟨a, rfl, .inr ⟨_, r⟩⟩
end
def gDIx (sd sk : Sl) : Option Rf := match dGet sd sk with
  | some (some d) => some (.im d)
  | _ => none
def gDIn (sk sd : Sl) : Option Rf := (dGet sd sk).map fun o => .im (.bool o.isSome)
def gDNotIn (sk sd : Sl) : Option Rf := (dGet sd sk).map fun o => .im (.bool (!o.isSome))
section
variable {X : Cx} {W : WX} {B : Bs} {a b e f o i : Expr} {ma mb mo me mf m : M Rf} {pos pos' apos cpos : Pos} {np : Nat}
theorem xdix (hu : X.A.units + 1 < cLine) (ha : XE X W B a ma) (hb : XE X W B b mb) (hs : NoSl b := by exact fun _ _ => rfl) : XE X W B (.Subscript a b pos) (mOp2 gDIx ma mb) := by
  obtain ⟨⟨ta, pa, ia⟩⟩ := ha
  obtain ⟨⟨tb, pb, ib⟩⟩ := hb
  refine .by_ (pe_dget hu pa pb hs) (imp_op2 (f := fun _ _ => pure .none) (r := fun x y H Q => ∃ a v, x = .ref a ∧ DGet H a y (some v) ∧ Q v H) ia ib fun G H x y sx sy z Q t lb hx hy hz q => ?_)
  unfold gDIx at hz
  split at hz
  · rename_i d hd
    cases hz
    obtain ⟨a, ov, rfl, g, v, rfl, dn⟩ := dget_ok hx hy hd
    exact ⟨a, v, rfl, g, q G H v (New.refl t) dn⟩
  · cases hz
theorem ok_din (hu : X.A.units + 1 < cLine) : Op2Ok X (compareOp .In) gDIn := by
  refine ⟨fun y x H Q => ∃ a o, x = .ref a ∧ DGet H a y o ∧ Q (.bl o.isSome) H, fun pins s σ H y x u v Q I ry rx h => ?_, fun G H x y sx sy z Q t lb hx hy hz q => ?_⟩
  · obtain ⟨a, ov, rfl, g, q⟩ := h
    obtain rfl : v = Value.ref a := rx
    exact d_in hu I g ry fun s3 I3 => ⟨.bl ov.isSome, H, I3, rfl, q⟩
  · obtain ⟨o, hd, rfl⟩ := Option.map_eq_some_iff.mp hz
    obtain ⟨a, ov, rfl, g, got⟩ := dget_ok hy hx hd
    have e : ov.isSome = o.isSome := by
      cases o with
      | none => rw [show ov = none from got]; rfl
      | some d => obtain ⟨v, rfl, _⟩ := got; rfl
    exact ⟨a, ov, rfl, g, q G H _ (New.refl t) (by rw [e]; exact .bl _)⟩
theorem ok_dnotin (hu : X.A.units + 1 < cLine) : Op2Ok X (compareOp .NotIn) gDNotIn := by
  refine ⟨fun y x H Q => ∃ a o, x = .ref a ∧ DGet H a y o ∧ Q (.bl (!o.isSome)) H, fun pins s σ H y x u v Q I ry rx h => ?_, fun G H x y sx sy z Q t lb hx hy hz q => ?_⟩
  · obtain ⟨a, ov, rfl, g, q⟩ := h
    obtain rfl : v = Value.ref a := rx
    exact d_notIn hu I g ry fun s3 I3 => ⟨.bl (!ov.isSome), H, I3, rfl, q⟩
  · obtain ⟨o, hd, rfl⟩ := Option.map_eq_some_iff.mp hz
    obtain ⟨a, ov, rfl, g, got⟩ := dget_ok hy hx hd
    have e : ov.isSome = o.isSome := by
      cases o with
      | none => rw [show ov = none from got]; rfl
      | some d => obtain ⟨v, rfl, _⟩ := got; rfl
    exact ⟨a, ov, rfl, g, q G H _ (New.refl t) (by rw [e]; exact .bl _)⟩
/-- d.get(k, x) -/
def mDGet2 (mo me mf : M Rf) : M Rf := mo.bind fun x env1 => match view env1 x with
  | some sd => (match asD sd with
    | some _ => (me.bind fun y => mf.bind fun z env3 => (match view env3 x, view env3 y with
      | some sd, some sk => (match dGet sd sk with
        | some (some d) => .ok (.im d) env3
        | some none => .ok z env3
        | none => .stuck)
      | _, _ => .stuck)) env1
    | none => .stuck)
  | none => .stuck
theorem xdget2 (hu : X.A.units + 1 < cLine) (ho : XE X W B o mo) (he : XE X W B e me) (hf : XE X W B f mf) (m : M2 X o "get" apos e f cpos) : XE X W B (.Call (.Attribute o "get" apos) [e, f] [] cpos) (mDGet2 mo me mf) := by
  obtain ⟨⟨ta, pa, ia⟩⟩ := ho
  obtain ⟨⟨tb, pb, ib⟩⟩ := he
  obtain ⟨⟨tc, pc, ic⟩⟩ := hf
  refine .by_ (pe_dget2 hu pa pb pc m) fun G H σ env Q E p => ?_
  refine ia.run E Ext.refl p fun v x env1 G1 H1 _ E1 r1 _ x1 p => ?_
  split at p
  case h_2 => exact p.elim
  rename_i sd hv
  split at p
  case h_2 => exact p.elim
  rename_i o ho
  obtain ⟨a, rfl, isd⟩ := isd_ok (r1.view E1 hv) ho
  refine ⟨a, rfl, isd, ?_⟩
  refine ib.run E1 x1 p fun y yr env2 G2 H2 _ E2 r2 e2 x2 p => ?_
  refine ic.run E2 x2 p fun z zr env3 G3 H3 _ E3 r3 e3 x3 p => ?_
  have r1' := (r1.ext E1 e2).ext E2 e3
  have r2' := r2.ext E2 e3
  split at p
  case h_2 => exact p.elim
  rename_i sd' sk hv1 hv2
  split at p
  · rename_i d hd
    obtain ⟨a', ov, e', g, v, rfl, dn⟩ := dget_ok (r1'.view E3 hv1) (r2'.view E3 hv2) hd
    cases e'
    exact ⟨_, g, p G3 H3 v E3 dn x3⟩
  · rename_i hd
    obtain ⟨a', ov, e', g, got⟩ := dget_ok (r1'.view E3 hv1) (r2'.view E3 hv2) hd
    cases e'
    cases (show ov = none from got)
    exact ⟨_, g, p G3 H3 z E3 (r3.back x2.e2) x3⟩
  · exact p.elim
/-- d[k] = v -/
def sPutD (np j : Nat) (mk mv : M Rf) : MS := fun env => (mv env).toSR fun x e => (toI np x e).toSR fun d e => (mVar j e).toSR fun _ e => (mk e).toSR fun y e => match e[j]?, view e y with
  | some (.odk kvs), some sk => (match keyS sk with
    | some k => if kvs.length < sizeLine then .nx (e.set j (.odk (putD kvs k d))) else .stuck
    | none => .stuck)
  | some (.odt kvs), some sk => (match keyT sk with
    | some k => if kvs.length < sizeLine then .nx (e.set j (.odt (putD kvs k d))) else .stuck
    | none => .stuck)
  | _, _ => .stuck
theorem xs_putD {j : Nat} {x : Str} {px : Pos} (hu : X.A.units + 1 < cLine) (hnp : B.np ≤ np) (hi : XE X W B i mb) (hv : XE X W B e me) (hN : X.N[j]? = some x := by rfl) (hvx : Vis X.env.scope x := by first | exact Or.inl rfl | exact Or.inr (Or.inl rfl) | exact Or.inr (Or.inr rfl))
    (hd : (x == ("__debug__" : Str)) = false := by decide) (hcd : (x == ("__classdict__" : Str)) = false := by decide) (hs : swapsWith e (some (.Subscript (.Name x px) i pos')) pos.line X.env = pure false := by rfl) :
    XS X W B (.Assign [.Subscript (.Name x px) i pos'] e pos) (sPutD np j mb me) := by
  obtain ⟨⟨tb, pb, ib⟩⟩ := hi
  obtain ⟨⟨tc, pc, ic⟩⟩ := hv
  refine ⟨⟨_, ps_dput hu (pe_var (i := j) hN hvx hd hcd) pb pc hs, fun G H σ env D E p => ?_⟩⟩
  refine ic.runS E p fun v x env1 G1 H1 _ E1 r1 x1 p => ?_
  obtain ⟨d, env2, h2, p⟩ := PostS.inv p toI_nox
  obtain ⟨G2, E2, dn, x2, th, _⟩ := toI_ok E.gt E.f2 E1 x1 r1 hnp h2
  have f2 : Fz G H G2 H1 := (x1.fz E).trans th.fz
  -- the dict
  unfold mVar at p
  have main : ∀ s0 v0, env2[j]? = some s0 → σ[j]? = some (some v0) → PostS B X.ct W G H ((mb env2).toSR fun y e => match e[j]?, view e y with
  | some (.odk kvs), some sk => (match keyS sk with
    | some k => if kvs.length < sizeLine then .nx (e.set j (.odk (putD kvs k d))) else .stuck
    | none => .stuck)
  | some (.odt kvs), some sk => (match keyT sk with
    | some k => if kvs.length < sizeLine then .nx (e.set j (.odt (putD kvs k d))) else .stuck
    | none => .stuck)
  | _, _ => .stuck) D → tVar j σ H1 fun x H2 => tb σ H2 fun y H3 => ∃ a H4, x = .ref a ∧ DPut H3 a y v H4 ∧ D.nx σ H4 := by
    intro s0 v0 h0 hv0 p
    refine ⟨v0, hv0, ?_⟩
    refine ib.runS E2 (PostS.shift f2 p) fun y yr env3 G3 H3 _ E3 r3 x3 p => ?_
    have f3 := x3.fz E2
    split at p
    · rename_i kvs sk hk hvw
      obtain ⟨v', hv', sr⟩ := E3.sl j _ hk (by simp)
      rw [hv0] at hv'
      cases hv'
      obtain ⟨a, rfl, ga, ks, ha, kr⟩ := sr
      split at p
      case h_2 => exact p.elim
      rename_i k hkey
      split at p
      case isFalse => exact p.elim
      rename_i hl
      have ey := key_s (r3.view E3 hvw) hkey
      have dn3 := dn.keep f3
      obtain ⟨E4, _, fz⟩ := E3.pokeOwn (o' := .dK (putK ks k v)) (s' := .odk (putD kvs k d)) hk rfl hv0 trivial ⟨_, upd_same, (kr.put k dn3).keep (fz_poke ga)⟩
      have hl' : ks.length < sizeLine := by rw [kr.keys.2.2]; exact hl
      exact ⟨a, _, rfl, .inl ⟨ks, k, ha, ey, hl', rfl⟩, p _ _ _ E4 (f3.trans fz)⟩
    · rename_i kvs sk hk hvw
      obtain ⟨v', hv', sr⟩ := E3.sl j _ hk (by simp)
      rw [hv0] at hv'
      cases hv'
      obtain ⟨a, rfl, ga, ks, ha, kr⟩ := sr
      split at p
      case h_2 => exact p.elim
      rename_i k hkey
      split at p
      case isFalse => exact p.elim
      rename_i hl
      obtain ⟨b, rfl, eb⟩ := key_t (r3.view E3 hvw) hkey
      have dn3 := dn.keep f3
      obtain ⟨E4, _, fz⟩ := E3.pokeOwn (o' := .dT (putK ks k v)) (s' := .odt (putD kvs k d)) hk rfl hv0 trivial ⟨_, upd_same, (kr.put k dn3).keep (fz_poke ga)⟩
      have hl' : ks.length < sizeLine := by rw [kr.keys.2.2]; exact hl
      exact ⟨a, _, rfl, .inr ⟨ks, k, b, ha, rfl, eb, hl', rfl⟩, p _ _ _ E4 (f3.trans fz)⟩
    · exact p.elim
  split at p
  · exact p.elim
  · exact p.elim
  · rename_i d' h
    obtain ⟨v', hv', _⟩ := E2.sl j _ h (by simp)
    exact main _ _ h hv' p
  · rename_i s' hn _ h
    obtain ⟨v', hv', _⟩ := E2.sl j _ h (fun z => hn z)
    exact main _ _ h hv' p
/-- {} -/
def mDK : M Rf := fun env => .ok (.tmp (.odk [])) env
def mDT : M Rf := fun env => .ok (.tmp (.odt [])) env
theorem xdk : XE X W B (.Dict [] [] pos) mDK := by
  refine .by_ pe_dnewK fun G H σ env Q E p q hq => ?_
  have n := New.updG (o := .dK []) E.gt hq trivial
  exact p _ _ (.ref q) (E.new n) ⟨q, rfl, ⟨.inr rfl, hq, [], upd_same, .nil⟩, fun z => (E.ow_there z) hq⟩ n.ext
theorem xdt : XE X W B (.Dict [] [] pos) mDT := by
  refine .by_ pe_dnewT fun G H σ env Q E p q hq => ?_
  have n := New.updG (o := .dT []) E.gt hq trivial
  exact p _ _ (.ref q) (E.new n) ⟨q, rfl, ⟨.inr rfl, hq, [], upd_same, .nil⟩, fun z => (E.ow_there z) hq⟩ n.ext
/-- {k: v}, k a tuple -/
def tDisp1 (tk tv : TE) : TE := fun σ H Q => ∀ p, H p = none → tk σ (upd H p (.dT [])) fun x H1 => tv σ H1 fun y H2 => H2 p = some (.dT []) ∧ ∃ b k, x = .ref b ∧ H2 b = some (.tup (k.map kV)) ∧ Q (.ref p) (upd H2 p (.dT [(k, y)]))
theorem pe_disp1 {tk tv : TE} (hu : X.A.units + 1 < cLine) (hk : PE X a tk) (hv : PE X b tv) : PE X (.Dict [some a] [b] pos) (tDisp1 tk tv) := by
  refine ⟨fun pins s σ H Q I q => ?_⟩
  have hn := I.hok.fresh (Nat.le_refl s.heap.objs.size)
  have I1 := I.laid (a := s.heap.objs.size) (o := .dT []) (h' := s.heap.push { cls := .type "dict", data := .dict #[] }) (t' := s.toks) (fun _ _ q => Heap.get?_push_of_some _ q) (Nat.le_refl _) (dt_empty s.heap I.big)
  rw [arm_eval_Dict, zip_pairTrees [some a] [b] X.env pos rfl rfl, dictDisplay_pairs _ (by simp [pairTrees]) (by simp [pairTrees])]
  refine wpAny_bind (wpAny_standAt (wpAny_bind (wpAny_subDictH (knd := tupleKind (mixKind X.prog X.w)) (Q := fun d s' => wpAny (model X.prog X.w) X.A (pure (Value.ref d)) _ X.xe s') (by have := hu; show X.A.units < cLine; omega) (by simp [pairTrees]) ?_)))
  refine thn ((pps_cons hk hv pps_nil).run pins _ σ _ (fun ps H2 => match ps with
    | [(x, y)] => H2 s.heap.objs.size = some (.dT []) ∧ ∃ b k, x = .ref b ∧ H2 b = some (.tup (k.map kV)) ∧ Q (.ref s.heap.objs.size) (upd H2 s.heap.objs.size (.dT [(k, y)]))
    | _ => False) I1 ?_) fun ws s2 h2 => ?_
  · exact q _ hn
  · obtain ⟨ps, H2, I2, rel, q2⟩ := h2
    match ps, q2, rel with
    | [(_, y)], ⟨e, b', k, rfl, eb, q2⟩, rel =>
    cases rel with
    | cons r t =>
      cases t
      rename_i w2
      obtain ⟨u1, u2⟩ := w2
      obtain ⟨r1, r2⟩ := r
      cases (show u1 = Value.ref b' from r1)
      obtain ⟨z, hd, xs, rel, dd⟩ := dt_of I2.hok e
      cases rel
      refine ⟨[(k, b', u2)], ⟨rfl, rfl, key_of I2.hok eb, trivial⟩, dd, fun h' tk dd' hs => wpAny_pure ⟨.ref s.heap.objs.size, _, ?_, rfl, q2⟩⟩
      obtain ⟨o, es, ep, hq, h2, h3, h4, _, h5⟩ := dd'
      refine d_write I2 (by rw [e]; exact True.intro) hs ⟨o, hq⟩ ⟨?_, hd, [(k, b', u2)], .cons ⟨rfl, ?_, r2⟩ .nil, o, es, ep, hq, h2, h3, h4, h5⟩
      · rw [sizeLine_eq, List.length_singleton]; omega
      · rw [upd_ne (ne_of eb e (fun z => nomatch z))]
        exact eb
def mDisp1 (np : Nat) (mk mv : M Rf) : M Rf := mk.bind fun x => mv.bind fun y env2 => match view env2 x with
  | some sk => (match keyT sk with
    | some k => (toI np y env2).bind fun d env3 => .ok (.tmp (.odt [(k, d)])) env3
    | none => .stuck)
  | none => .stuck
theorem xdisp1 (hu : X.A.units + 1 < cLine) (hnp : B.np ≤ np) (ha : XE X W B a ma) (hb : XE X W B b mb) : XE X W B (.Dict [some a] [b] pos) (mDisp1 np ma mb) := by
  obtain ⟨⟨ta, pa, ia⟩⟩ := ha
  obtain ⟨⟨tb, pb, ib⟩⟩ := hb
  refine .by_ (pe_disp1 hu pa pb) fun G H σ env Q E p q hq => ?_
  have n0 := New.updG (o := .dT []) E.gt hq trivial
  have x0 : Ext G H _ _ σ env env := n0.ext
  have E0 := E.new n0
  have nq : ¬ Ow σ env q := fun z => (E.ow_there z) hq
  refine ia.run E0 x0 p fun x xr env1 G1 H1 _ E1 r1 e1 x1 p => ?_
  refine ib.run E1 x1 p fun y yr env2 G2 H2 _ E2 r2 e2 x2 p => ?_
  have q1 : H1 q = some (.dT []) := e1.e1 q _ upd_same nq
  have o1 : ¬ Ow σ env1 q := fun z => nq (e1.e5 q z)
  have g1 : G1 q := e1.e4 q (.inr rfl) nq
  have q2 : H2 q = some (.dT []) := e2.e1 q _ q1 o1
  have o2 : ¬ Ow σ env2 q := fun z => o1 (e2.e5 q z)
  have g2 : G2 q := e2.e4 q g1 o1
  have r1 := r1.ext E1 e2
  split at p
  case h_2 => exact p.elim
  rename_i sk hv
  split at p
  case h_2 => exact p.elim
  rename_i k hk
  obtain ⟨b', rfl, eb⟩ := key_t (r1.view E2 hv) hk
  obtain ⟨d, env3, h3, p⟩ := Post.inv p toI_nox
  have ex : Ext _ (upd H q (.dT [])) G2 H2 σ env env2 := e1.trans e2
  obtain ⟨G3, E3, dn, x3, th, ow3⟩ := toI_ok E0.gt E0.f2 E2 ex (RfR.back e1.e2 r2) hnp h3
  have g3 : G3 q := Classical.byContradiction fun z => by
    rcases th.at_ q g2 z with h | ⟨rfl, s, rfl⟩
    · exact o2 h
    · obtain ⟨c, e, t, _⟩ := r2
      cases e
      have := t.new
      rw [q1] at this
      cases this
  have o3 : ¬ Ow σ env3 q := fun z => o2 (ow3 q z)
  have E4 := E3.poke (o' := .dT [(k, y)]) g3 o3 (E.dom0 hq) q2 trivial
  have x4 := x0.trans x3
  refine ⟨q2, b', k, rfl, eb, p G3 _ (.ref q) E4 ⟨q, rfl, ⟨g3, hq, [(k, y)], upd_same, .cons ⟨rfl, dn.keep (fz_poke g3)⟩ .nil⟩, o3⟩ ⟨fun c o h nn => ?_, fun c h => ?_, x4.e3, x4.e4, x4.e5⟩⟩
  · rw [upd_ne fun z => by rw [z, hq] at h; cases h]
    exact x4.e1 c o h nn
  · by_cases e : c = q
    · subst e; rw [upd_same]; simp
    · rw [upd_ne e]; exact x4.e2 c h
end
end PL

set_option maxRecDepth 100000
namespace PL
open PySem PySem.Spec PyProof.Rows L2

/-! ### a dict is locked while it is walked -/
def IsDO (u : HO) : Prop := (∃ ks, u = .dK ks) ∨ ∃ ks, u = .dT ks
structure SwH (a : Addr) (u : HO) (H H2 : Hp) : Prop where
  o : ∀ b, b ≠ a → H2 b = H b
  d : IsDO u
  r : Rd H a u
  r2 : Rd H2 a u
section
variable {mg : MG} {G G' : AP} {H H2 : Hp} {a : Addr} {u : HO} {B B2 : Bs} {σ : St} {env env' : En}
theorem SwH.symm (s : SwH a u H H2) : SwH a u H2 H := ⟨fun b n => (s.o b n).symm, s.d, s.r2, s.r⟩
theorem rd_uniq {u' : HO} (d : IsDO u) (d' : IsDO u') (h : Rd H a u) (h' : Rd H a u') : u = u' := by
  have nf : ∀ {v : HO}, IsDO v → ∀ o w, v ≠ .frz o w := fun dv o w z => by
    rcases dv with ⟨ks, e⟩ | ⟨ks, e⟩ <;> (rw [e] at z; cases z)
  rcases h with h | ⟨o, h⟩ <;> rcases h' with h' | ⟨o', h'⟩ <;> rw [h] at h'
  · exact Option.some.inj h'
  · exact absurd (Option.some.inj h') (nf d _ _)
  · exact absurd (Option.some.inj h').symm (nf d' _ _)
  · cases Option.some.inj h'; rfl
theorem SwH.ne {b : Addr} {o : HO} (s : SwH a u H H2) (h : H b = some o) (n : ¬ IsDO o) (n2 : ∀ x v, IsDO v → o ≠ .frz x v) : H2 b = some o := by
  have e : b ≠ a := fun z => by
    subst z
    rcases s.r with r | ⟨x, r⟩ <;> rw [h] at r <;> cases Option.some.inj r
    · exact n s.d
    · exact n2 _ _ s.d rfl
  rw [s.o b e]
  exact h
theorem SwH.rd {b : Addr} {v : HO} (s : SwH a u H H2) (dv : IsDO v) (h : Rd H b v) : Rd H2 b v := by
  by_cases e : b = a
  · subst e
    rw [← rd_uniq s.d dv s.r h]
    exact s.r2
  · unfold Rd
    rw [s.o b e]
    exact h
mutual
theorem Dn.sw (s : SwH a u H H2) : ∀ {v : V} {d : D}, Dn mg G H v d → Dn mg G H2 v d
  | _, _, .non => .non
  | _, _, .bl b => .bl b
  | _, _, .int i => .int i
  | _, _, .str x => .str x
  | _, _, .lst g r k => .lst g (s.ne r (fun z => by rcases z with ⟨_, z⟩ | ⟨_, z⟩ <;> cases z) fun _ _ _ z => by cases z) (DnA.sw s k)
  | _, _, .scr g r k => .scr g (s.ne r (fun z => by rcases z with ⟨_, z⟩ | ⟨_, z⟩ <;> cases z) fun _ v dv z => by
      cases z
      rcases dv with ⟨_, z⟩ | ⟨_, z⟩ <;> cases z) (DnA.sw s k)
  | _, _, .lk r k => .lk r (DnA.sw s k)
  | _, _, .tup g r k => .tup g (s.ne r (fun z => by rcases z with ⟨_, z⟩ | ⟨_, z⟩ <;> cases z) fun _ _ _ z => by cases z) (DnA.sw s k)
  | _, _, .fn h => .fn h
  | _, _, .dk g r e k z => .dk g (s.rd (.inl ⟨_, rfl⟩) r) e (DnA.sw s k) z
  | _, _, .dt g r e k z => .dt g (s.rd (.inr ⟨_, rfl⟩) r) e (DnA.sw s k) z
theorem DnA.sw (s : SwH a u H H2) : ∀ {vs : List V} {ds : List D}, DnA mg G H vs ds → DnA mg G H2 vs ds
  | _, _, .nil => .nil
  | _, _, .cons x y => .cons (Dn.sw s x) (DnA.sw s y)
end
theorem OwR.sw {c : Addr} {t : Sl} (s : SwH a u H H2) (n : c ≠ a) (h : OwR mg G H c t) : OwR mg G H2 c t := by
  cases t with
  | no => exact h.elim
  | im d => exact h.elim
  | ol ds => obtain ⟨xs, e, q⟩ := h; exact ⟨xs, by rw [s.o c n]; exact e, q.sw s⟩
  | odk ds => obtain ⟨xs, e, q⟩ := h; exact ⟨xs, by rw [s.o c n]; exact e, Paired.mapD (fun _ _ z => ⟨z.1, z.2.sw s⟩) q⟩
  | odt ds => obtain ⟨xs, e, q⟩ := h; exact ⟨xs, by rw [s.o c n]; exact e, Paired.mapD (fun _ _ z => ⟨z.1, z.2.sw s⟩) q⟩
theorem SwH.there (s : SwH a u H H2) {b : Addr} : H b ≠ none → H2 b ≠ none := fun h => by
  by_cases e : b = a
  · subst e
    rcases s.r2 with r | ⟨_, r⟩ <;> rw [r] <;> simp
  · rw [s.o b e]; exact h
/-- the frame, when one dict that it doesn't own is locked or unlocked -/
theorem ER.sw (E : ER B mg G H σ env) (s : SwH a u H H2) (ng : ¬ G a) (e1 : B2.io = B.io) (e2 : B2.np = B.np) (e3 : B2.G0 = B.G0) (h0 : ∀ b, b ≠ a → B2.H0 b = B.H0 b) (ha : B2.H0 a = none ∨ B2.H0 a = H2 a) : ER B2 mg G H2 σ env := by
  obtain ⟨H0, G0, io, np⟩ := B
  obtain ⟨H02, G02, io2, np2⟩ := B2
  dsimp only at e1 e2 e3
  subst e1 e2 e3
  have there := fun b => s.there (b := b)
  refine ⟨E.len, fun i t e n => ?_, E.ds, E.io, fun b o hb hn => ?_, fun b hb => ?_, fun b g => ?_, E.f4, fun i t c e o q => ?_, fun b g => there b (E.gt b g), fun b g => ?_, ⟨fun b xs q => ?_, fun b g xs q => ?_⟩⟩
  · obtain ⟨v, hv, r⟩ := E.sl i t e n
    refine ⟨v, hv, ?_⟩
    cases t with
    | no => exact absurd rfl n
    | im d => exact Dn.sw s r
    | ol ds => obtain ⟨c, rfl, g, q⟩ := r; exact ⟨c, rfl, g, OwR.sw (t := .ol ds) s (fun z => ng (by rw [← z]; exact g)) q⟩
    | odk ds => obtain ⟨c, rfl, g, q⟩ := r; exact ⟨c, rfl, g, OwR.sw (t := .odk ds) s (fun z => ng (by rw [← z]; exact g)) q⟩
    | odt ds => obtain ⟨c, rfl, g, q⟩ := r; exact ⟨c, rfl, g, OwR.sw (t := .odt ds) s (fun z => ng (by rw [← z]; exact g)) q⟩
  · by_cases e : b = a
    · subst e
      rcases ha with z | z
      · have hb : H02 b = some o := hb
        rw [show H02 b = none from z] at hb; cases hb
      · have hb : H02 b = some o := hb
        rw [show H02 b = H2 b from z] at hb; exact hb
    · have hb := (h0 b e).symm.trans hb
      rw [s.o b e]
      exact E.f1 b o hb hn
  · by_cases e : b = a
    · subst e
      rcases s.r2 with r | ⟨_, r⟩ <;> rw [r] <;> simp
    · rw [h0 b e] at hb
      exact there b (E.f2 b hb)
  · have e : b ≠ a := fun z => ng (by rw [← z]; exact g)
    rw [h0 b e]
    exact E.f3 b g
  · have e' : c ≠ a := fun z => ng (by rw [← z]; exact E.ow ⟨i, t, e, o, q⟩)
    rw [h0 c e']
    exact E.f5 i t c e o q
  · have e : b ≠ a := fun z => ng (by rw [← z]; exact E.f4 b g)
    rw [h0 b e]
    exact E.g0 b g
  · refine E.lb.1 b xs ?_
    have back := s.symm
    rcases q with q | q | ⟨o, q⟩
    · exact .inl (back.ne q (fun z => by rcases z with ⟨_, z⟩ | ⟨_, z⟩ <;> cases z) fun _ _ _ z => by cases z)
    · exact .inr (.inl (back.ne q (fun z => by rcases z with ⟨_, z⟩ | ⟨_, z⟩ <;> cases z) fun _ _ _ z => by cases z))
    · exact .inr (.inr ⟨o, back.ne q (fun z => by rcases z with ⟨_, z⟩ | ⟨_, z⟩ <;> cases z) fun _ v dv z => by
        cases z
        rcases dv with ⟨_, z⟩ | ⟨_, z⟩ <;> cases z⟩)
  · exact E.lb.2 b g xs (s.symm.ne q (fun z => by rcases z with ⟨_, z⟩ | ⟨_, z⟩ <;> cases z) fun _ _ _ z => by cases z)
end
/-! ### the keys -/
def keysD : D → Option (List D)
  | .dict ((.bool _, .none) :: ps) => if ps.length ≤ sizeLine then some (ps.map (·.1)) else none
  | _ => none
def itD (a : Addr) (o : Obj) : HO → It
  | .dK ks => Itk a o ks
  | .dT ks => Itkt a o ks
  | _ => ⟨fun _ _ => False, fun _ _ _ _ => False, fun _ _ => False⟩
section
variable {mg : MG} {G G' : AP} {H H2 : Hp} {a : Addr} {u : HO} {B B2 : Bs} {σ : St} {env env' : En}
theorem keys_of {v : V} {d : D} {ds : List D} (h : Dn mg G H v d) (e : keysD d = some ds) : ∃ a u, v = .ref a ∧ ¬ G a ∧ Rd H a u ∧ IsDO u ∧ ∀ (o : Obj) G2 H2, ¬ G2 a → H2 a = some (.frz o u) → Walks mg G2 H2 (itD a o u) ds := by
  unfold keysD at e
  split at e
  case h_2 => cases e
  rename_i b ps
  split at e
  case isFalse => cases e
  rename_i hl
  cases e
  cases h with
  | @dk a ks kvs _ g r k q z =>
    subst z
    have lk : ks.length = kvs.length := by rw [← List.length_map (f := (·.1)) (as := ks), k, List.length_map]
    refine ⟨a, .dK ks, rfl, g, r, .inl ⟨ks, rfl⟩, fun o G2 H2 ng hf => ⟨fun G H i f hi => ?_, fun G H i x H' f gt lb hi hy => ?_, fun G H i f hi => ?_, by simpa using hl⟩⟩
    · exact ⟨(f _ _ ng hf).1, by simpa [lk] using hi⟩
    · obtain ⟨rfl, k', v', h1, rfl⟩ := hy
      have h2 : (ks.map (·.1))[i]? = some k' := by rw [List.getElem?_map, h1]; rfl
      rw [k, List.getElem?_map] at h2
      obtain ⟨p, h3, h4⟩ := Option.map_eq_some_iff.mp h2
      refine ⟨kD k', by rw [List.map_map, List.getElem?_map, h3, ← h4]; rfl, New.refl gt, ?_⟩
      cases k' <;> constructor
    · exact ⟨(f _ _ ng hf).1, by simpa [lk] using hi⟩
  | @dt a ks kvs _ g r k q z =>
    subst z
    have lk : ks.length = kvs.length := by rw [← List.length_map (f := (·.1)) (as := ks), k, List.length_map]
    refine ⟨a, .dT ks, rfl, g, r, .inr ⟨ks, rfl⟩, fun o G2 H2 ng hf => ⟨fun G H i f hi => ?_, fun G H i x H' f gt lb hi hy => ?_, fun G H i f hi => ?_, by simpa using hl⟩⟩
    · exact ⟨(f _ _ ng hf).1, by simpa [lk] using hi⟩
    · obtain ⟨rfl, k', v', c, h1, rfl, hc⟩ := hy
      have h2 : (ks.map (·.1))[i]? = some k' := by rw [List.getElem?_map, h1]; rfl
      rw [k, List.getElem?_map] at h2
      obtain ⟨p, h3, h4⟩ := Option.map_eq_some_iff.mp h2
      refine ⟨.tuple (k'.map kD), by rw [List.map_map, List.getElem?_map, h3, ← h4]; rfl, New.refl gt, ?_⟩
      have key : ∀ l : List Key, DnA mg G H' (l.map kV) (l.map kD) := fun l => by
        induction l with
        | nil => exact .nil
        | cons x l ih => exact .cons (by cases x <;> constructor) ih
      exact .tup (fun z => lb.2 c z _ hc) hc (key k')
    · exact ⟨(f _ _ ng hf).1, by simpa [lk] using hi⟩
theorem iKeys_of {j : Nat} {o : Obj} {R : It → Hp → Prop} (hv : σ[j]? = some (some (V.ref a))) (hf : H a = some (.frz o u)) (d : IsDO u) (r : R (itD a o u) H) : iKeys (tVar j) σ H R := by
  refine ⟨_, hv, a, o, rfl, ?_⟩
  rcases d with ⟨ks, rfl⟩ | ⟨ks, rfl⟩
  · exact .inl ⟨ks, hf, r⟩
  · exact .inr ⟨ks, hf, r⟩
end
/-- no exception -/
def noX : SR → SR
  | .exn _ _ => .stuck
  | r => r
def sForD (j : Nat) (mt : MT) (body : MS) : MS := fun env => match env[j]? with
  | some (.im d) => (match keysD d with
    | some ds => noX (loopS mt body ds env)
    | none => .stuck)
  | _ => .stuck
def lockB (B : Bs) (a : Addr) (w : HO) : Bs := { B with H0 := upd B.H0 a w }
section
variable {X : Cx} {W : WX} {B : Bs} {elt tg e : Expr} {ifs : List Expr} {scope : Scope} {own : List (Str × Nat)} {body : List Stmt} {np j : Nat} {x : Str} {px pos : Pos} {vs sl : List Nat} {mt : MT} {ms : MS} {mc : M Bool} {me : M Rf}
theorem ps_or {st : Stmt} {t1 t2 : TS} (h1 : PS X st t1) (h2 : PS X st t2) : PS X st (fun D σ H => t1 D σ H ∨ t2 D σ H) := ⟨fun pins s σ H D I h => by
  rcases h with h | h
  · exact h1.run pins s σ H D I h
  · exact h2.run pins s σ H D I h⟩
theorem pe_or {t1 t2 : TE} (h1 : PE X e t1) (h2 : PE X e t2) : PE X e (fun σ H Q => t1 σ H Q ∨ t2 σ H Q) := ⟨fun pins s σ H Q I h => by
  rcases h with h | h
  · exact h1.run pins s σ H Q I h
  · exact h2.run pins s σ H Q I h⟩
/-- one reading for every ground -/
theorem all_Ss {st : List Stmt} {C : Bs → Prop} (h : ∀ B, C B → XSs X W B st ms) : ∃ t : TS, PSs X st t ∧ ∀ B, C B → ImpS B X.ct W t ms :=
  ⟨fun D σ H => ∃ t', PSs X st t' ∧ t' D σ H, ⟨fun pins s σ H D I ⟨t', p, z⟩ => p.run pins s σ H D I z⟩, fun B c G H σ env D E p => by
    obtain ⟨⟨t, pt, it⟩⟩ := h B c
    exact ⟨t, pt, it G H σ env D E p⟩⟩
theorem all_G {C : Bs → Prop} (h : ∀ B, C B → XG X B tg sl mt) : ∃ t : TG, PG X tg t ∧ ∀ B, C B → ∀ G H σ env v d env' Q, ER B X.ct G H σ env → Dn X.ct G H v d → mt d env = some env' → (∀ σ', ER B X.ct G H σ' env' → Slots sl σ σ' → (∀ b, Ow σ' env' b → Ow σ env b) → Q σ' H) → t v σ H Q :=
  ⟨fun v σ H Q => ∃ t' : TG, PG X tg t' ∧ t' v σ H Q, ⟨fun pins s σ H v u Q I r ⟨t', p, z⟩ => p.run pins s σ H v u Q I r z⟩, fun B c G H σ env v d env' Q E dn h1 q => by
    obtain ⟨⟨t, pt, it⟩⟩ := h B c
    exact ⟨t, pt, it G H σ env v d env' Q E dn h1 q⟩⟩
theorem xs_forD (hp : PassesOwn (model X.prog X.w) X.A X.env X.xe) (hc : X.calm = true) (hnp : B.np ≤ np) (hg : ∀ B : Bs, B.np ≤ np → XG X B tg sl mt) (hb : ∀ B : Bs, B.np ≤ np → XSs X W B body ms) (hN : X.N[j]? = some x := by rfl)
    (hv : Vis X.env.scope x := by first | exact Or.inl rfl | exact Or.inr (Or.inl rfl) | exact Or.inr (Or.inr rfl)) (hd : (x == ("__debug__" : Str)) = false := by decide) (hcd : (x == ("__classdict__" : Str)) = false := by decide)
    (hs : ∀ y, foldedSetIterable (.Name x px) X.env y = pure y := by intro _; rfl) : XS X W B (.For tg (.Name x px) body [] pos) (sForD j mt ms) := by
  obtain ⟨g, pg, ig⟩ := all_G hg
  obtain ⟨tb, pb, ib⟩ := all_Ss hb
  have pf := ps_for (pos := pos) hp hc (pi_keys (tg := tg) (pe_var (i := j) (pos := px) hN hv hd hcd)) pg pb hs
  refine ⟨⟨_, ps_or (ps_lock pf) pf, fun G H σ env D E p => ?_⟩⟩
  unfold sForD at p
  split at p
  case h_2 => exact p.elim
  rename_i d hj
  split at p
  case h_2 => exact p.elim
  rename_i ds hds
  obtain ⟨v, hv, dn⟩ := E.sl j _ hj (by simp)
  obtain ⟨a, u, rfl, ga, rd, isd, wk⟩ := keys_of (show Dn X.ct G H v d from dn) hds
  have g0 : ¬ B.G0 a := fun z => ga (E.f4 a z)
  -- the loop, in a heap where the dict is locked
  have main : ∀ (o : Obj) (Hl : Hp) (D' : Ends), SwH a u H Hl → Hl a = some (.frz o u) → PostS (lockB B a (.frz o u)) X.ct W G Hl (loopS mt ms ds env) D' → tFor (iKeys (tVar j)) g tb D' σ Hl := by
    intro o Hl D' sw hf p'
    have E' : ER (lockB B a (.frz o u)) X.ct G Hl σ env := E.sw sw ga rfl rfl rfl (fun b n => upd_ne n) (.inr (by rw [hf]; exact upd_same))
    have io : ∀ p ∈ B.io, p.2 ≠ a := fun p hp z => by
      obtain ⟨_, q2, s, q3, q4⟩ := E.io p hp
      rw [z] at q2
      exact ga (E.ow ⟨p.1, s, q3, q4, q2⟩)
    have key := imp_for (B := lockB B a (.frz o u)) (mg := X.ct) (W := W) (wi := fun _ H' R => R (itD a o u) H') (mi := fun e => .ok ds e) (fun G2 H2 σ2 env2 Q E2 q => ?_) (ig _ hnp) (ib _ hnp) G Hl σ env D' E' p'
    · exact iKeys_of hv hf isd key
    · have h2 : H2 a = some (.frz o u) := E2.f1 a _ upd_same io
      have n2 : ¬ G2 a := fun z => by
        rcases E2.f3 a z with z | z
        · exact g0 z
        · rw [show (lockB B a (.frz o u)).H0 a = some (.frz o u) from upd_same] at z; cases z
      exact q G2 H2 _ E2 (wk o G2 H2 n2 h2) Ext.refl
  -- what holds behind, told of the first heap
  have back : ∀ (o : Obj) (Hl : Hp) {G' : AP} {H' : Hp} (H3 : Hp) {σ' : St} {e : En}, SwH a u H Hl → Hl a = some (.frz o u) → ER (lockB B a (.frz o u)) X.ct G' H' σ' e → Fz G Hl G' H' → H3 a = H a → (∀ b, b ≠ a → H3 b = H' b) → H' a = some (.frz o u) ∧ SwH a u H' H3 ∧ ¬ G' a ∧ ER B X.ct G' H3 σ' e ∧ Fz G H G' H3 := by
    intro o Hl G' H' H3 σ' e sw hf E2 fz h3 h4
    obtain ⟨q1, q2⟩ := fz a _ ga hf
    have sw' : SwH a u H' H3 := ⟨h4, isd, .inr ⟨o, q1⟩, by unfold Rd; rw [h3]; exact rd⟩
    refine ⟨q1, sw', q2, E2.sw sw' q2 rfl rfl rfl (fun b n => (upd_ne n).symm) ?_, fun b w gb hb => ?_⟩
    · cases q : B.H0 a with
      | none => exact .inl rfl
      | some w =>
        right
        rw [h3]
        exact (E.f1 a w q fun p hp z => by
          obtain ⟨_, q2, s, q3, q4⟩ := E.io p hp
          rw [z] at q2
          exact ga (E.ow ⟨p.1, s, q3, q4, q2⟩)).symm
    · by_cases e : b = a
      · subst e
        exact ⟨by rw [h3]; exact hb, q2⟩
      · obtain ⟨z1, z2⟩ := fz b w gb (by rw [sw.o b e]; exact hb)
        exact ⟨by rw [h4 b e]; exact z1, z2⟩
  have rets : ∀ (o : Obj) {G' : AP} {H' H3 : Hp} {σ' : St} {e : En} {v : V} {s : Sl}, SwH a u H' H3 → ¬ G' a → RtR X.ct (lockB B a (.frz o u)) G' H' σ' e v s → RtR X.ct B G' H3 σ' e v s := by
    intro o G' H' H3 σ' e v s sw ng r
    have go : s.own = true → (∃ c, v = .ref c ∧ TmpAt X.ct (lockB B a (.frz o u)).H0 G' H' c s ∧ ¬ Ow σ' e c) → RtR X.ct B G' H3 σ' e v s := fun ho ⟨c, e1, t, n⟩ => by
      subst e1
      have nc : c ≠ a := fun z => ng (by rw [← z]; exact t.g)
      refine .mk ⟨t.g, ?_, t.r.sw sw nc⟩ n
      rw [← t.new]
      exact (upd_ne nc).symm
    cases s with
    | no => exact r.elim
    | im d => exact Dn.sw sw r
    | ol ds => exact go rfl r
    | odk ds => exact go rfl r
    | odt ds => exact go rfl r
  rcases rd with hr | ⟨o, hr⟩
  · refine .inl ⟨a, u, hr, ?_, fun od => ?_⟩
    · rcases isd with ⟨ks, rfl⟩ | ⟨ks, rfl⟩ <;> trivial
    · have sw : SwH a u H (upd H a (.frz od u)) := ⟨fun b n => upd_ne n, isd, .inl hr, .inr ⟨od, upd_same⟩⟩
      refine main od _ _ sw upd_same ?_
      generalize loopS mt ms ds env = r at p
      have conv : ∀ {G' H' σ' e}, ER (lockB B a (.frz od u)) X.ct G' H' σ' e → Fz G (upd H a (.frz od u)) G' H' → H' a = some (.frz od u) ∧ SwH a u H' (upd H' a u) ∧ ¬ G' a ∧ ER B X.ct G' (upd H' a u) σ' e ∧ Fz G H G' (upd H' a u) := fun {G' H' σ' e} E2 fz =>
        back od _ (upd H' a u) sw upd_same E2 fz (by rw [upd_same, hr]) fun b n => upd_ne n
      cases r with
      | nx e => exact fun G' H' σ' E2 fz => let ⟨q1, _, _, q4, q5⟩ := conv E2 fz; ⟨q1, p G' _ σ' q4 q5⟩
      | bk e => exact fun G' H' σ' E2 fz => let ⟨q1, _, _, q4, q5⟩ := conv E2 fz; ⟨q1, p G' _ σ' q4 q5⟩
      | ct e => exact fun G' H' σ' E2 fz => let ⟨q1, _, _, q4, q5⟩ := conv E2 fz; ⟨q1, p G' _ σ' q4 q5⟩
      | rt s e => exact fun G' H' σ' v E2 fz rr => let ⟨q1, q2, q3, q4, q5⟩ := conv E2 fz; ⟨q1, p G' _ σ' v q4 q5 (rets od q2 q3 rr)⟩
      | exn c e => exact p.elim
      | stuck => exact p.elim
  · refine .inr (main o H _ ⟨fun _ _ => rfl, isd, .inr ⟨o, hr⟩, .inr ⟨o, hr⟩⟩ hr ?_)
    have sw : SwH a u H H := ⟨fun _ _ => rfl, isd, .inr ⟨o, hr⟩, .inr ⟨o, hr⟩⟩
    generalize loopS mt ms ds env = r at p
    have conv : ∀ {G' H' σ' e}, ER (lockB B a (.frz o u)) X.ct G' H' σ' e → Fz G H G' H' → SwH a u H' H' ∧ ¬ G' a ∧ ER B X.ct G' H' σ' e ∧ Fz G H G' H' := fun {G' H' σ' e} E2 fz =>
      (back o _ H' sw hr E2 fz (by rw [(fz a _ ga hr).1, hr]) fun b n => rfl).2
    cases r with
    | nx e => exact fun G' H' σ' E2 fz => let ⟨_, _, q4, q5⟩ := conv E2 fz; p G' _ σ' q4 q5
    | bk e => exact fun G' H' σ' E2 fz => let ⟨_, _, q4, q5⟩ := conv E2 fz; p G' _ σ' q4 q5
    | ct e => exact fun G' H' σ' E2 fz => let ⟨_, _, q4, q5⟩ := conv E2 fz; p G' _ σ' q4 q5
    | rt s e => exact fun G' H' σ' v E2 fz rr => let ⟨q2, q3, q4, q5⟩ := conv E2 fz; p G' _ σ' v q4 q5 (rets o q2 q3 rr)
    | exn c e => exact p.elim
    | stuck => exact p.elim
end
end PL

set_option maxRecDepth 100000
namespace PL
open PySem PySem.Spec PyProof.Rows L2

theorem hu1 {kk : Nat} {A : Around} (hr : Room kk A) : A.units + 1 < cLine := by have := hr.un; omega
/-! ### a comprehension over a dict -/
def mLcD (np : Nat) (vs : List Nat) (j : Nat) (mt : MT) (mc : M Bool) (me : M Rf) : M Rf := fun env => match env[j]? with
  | some (.im d) => (match keysD d with
    | some ds => mLc np vs (fun e => .ok ds e) mt mc me env
    | none => .stuck)
  | _ => .stuck
section
variable {X : Cx} {W : WX} {B : Bs} {elt tg e : Expr} {ifs : List Expr} {scope : Scope} {own : List (Str × Nat)} {np j : Nat} {x : Str} {px pos : Pos} {vs sl : List Nat} {mt : MT} {mc : M Bool} {me : M Rf}
theorem all_bG {C : Bs → Prop} (h : ∀ B, C B → ∀ b, XG (blkX X scope b) B tg sl mt) : ∃ t : TG, (∀ b, PG (blkX X scope b) tg t) ∧ ∀ B, C B → ImpG B X.ct sl t mt :=
  ⟨fun v σ H Q => ∃ t' : TG, (∀ b, PG (blkX X scope b) tg t') ∧ t' v σ H Q, fun b => ⟨fun pins s σ H v u Q I r ⟨t', p, z⟩ => (p b).run pins s σ H v u Q I r z⟩, fun B c G H σ env v d env' Q E dn h1 q => by
    obtain ⟨t, pt, it⟩ := uni_G (Xi := blkX X scope) (c := X.ct) (fun _ => rfl) (h B c)
    exact ⟨t, pt, it G H σ env v d env' Q E dn h1 q⟩⟩
theorem all_bT {C : Bs → Prop} (h : ∀ B, C B → ∀ b, XTs (blkX X scope b) WF B ifs mc) : ∃ t : TT, (∀ b, PTs (blkX X scope b) ifs t) ∧ ∀ B, C B → Imp B X.ct WF rB t mc :=
  ⟨fun σ H Q => ∃ t' : TT, (∀ b, PTs (blkX X scope b) ifs t') ∧ t' σ H Q, fun b => ⟨fun pins s σ H Q I ⟨t', p, z⟩ => (p b).run pins s σ H Q I z⟩, fun B c G H σ env Q E p => by
    obtain ⟨t, pt, it⟩ := uni_T (Xi := blkX X scope) (c := X.ct) (fun _ => rfl) (h B c)
    exact ⟨t, pt, it G H σ env Q E p⟩⟩
theorem all_bE {C : Bs → Prop} (h : ∀ B, C B → ∀ b, XE (blkX X scope b) WF B elt me) : ∃ t : TE, (∀ b, PE (blkX X scope b) elt t) ∧ ∀ B, C B → Imp B X.ct WF (rV X.ct) t me :=
  ⟨fun σ H Q => ∃ t' : TE, (∀ b, PE (blkX X scope b) elt t') ∧ t' σ H Q, fun b => ⟨fun pins s σ H Q I ⟨t', p, z⟩ => (p b).run pins s σ H Q I z⟩, fun B c G H σ env Q E p => by
    obtain ⟨t, pt, it⟩ := uni_E (Xi := blkX X scope) (c := X.ct) (fun _ => rfl) (h B c)
    exact ⟨t, pt, it G H σ env Q E p⟩⟩
theorem imp_lcD {g : TG} {tt : TT} {te : TE} (hnp : B.np ≤ np) (hvs : ∀ v ∈ vs, np ≤ v) (hsl : ∀ k ∈ sl, k ∈ vs) {mg : MG} (ig : ∀ B : Bs, B.np ≤ np → ImpG B mg sl g mt) (it : ∀ B : Bs, B.np ≤ np → Imp B mg WF rB tt mc) (ie : ∀ B : Bs, B.np ≤ np → Imp B mg WF (rV mg) te me) :
    Imp B mg W (rV mg) (fun σ H Q => tLockE (tLc (iKeys (tVar j)) g tt te vs) σ H Q ∨ tLc (iKeys (tVar j)) g tt te vs σ H Q) (mLcD np vs j mt mc me) := fun G H σ env Q E p => by
  unfold mLcD at p
  split at p
  case h_2 => exact p.elim
  rename_i d hj
  split at p
  case h_2 => exact p.elim
  rename_i ds hds
  obtain ⟨v, hv, dn⟩ := E.sl j _ hj (by simp)
  obtain ⟨a, u, rfl, ga, rd, isd, wk⟩ := keys_of (show Dn mg G H v d from dn) hds
  have g0 : ¬ B.G0 a := fun z => ga (E.f4 a z)
  have nio : ∀ p ∈ B.io, p.2 ≠ a := fun p hp z => by
    obtain ⟨_, q2, s, q3, q4⟩ := E.io p hp
    rw [z] at q2
    exact ga (E.ow ⟨p.1, s, q3, q4, q2⟩)
  have nox : ∀ c e, mLc np vs (fun e => Res.ok ds e) mt mc me env ≠ .exn c e := fun c e h => by
    unfold mLc at h
    rw [Res.bind_ok] at h
    cases q : lcLoop np vs mt mc me ds (wipeE vs env) with
    | exn c e => exact lcLoop_nox _ _ q
    | stuck => rw [q] at h; cases h
    | ok r e => rw [q] at h; cases h
  have main : ∀ (o : Obj) (Hl : Hp) (Q' : V → Hp → Prop), SwH a u H Hl → Hl a = some (.frz o u) → Post (lockB B a (.frz o u)) mg W (rV mg) G Hl σ env (mLc np vs (fun e => Res.ok ds e) mt mc me env) Q' → tLc (iKeys (tVar j)) g tt te vs σ Hl Q' := by
    intro o Hl Q' sw hf p'
    have E' : ER (lockB B a (.frz o u)) mg G Hl σ env := E.sw sw ga rfl rfl rfl (fun b n => upd_ne n) (.inr (by rw [hf]; exact upd_same))
    have key := imp_lc (B := lockB B a (.frz o u)) (mg := mg) (W := W) (wi := fun _ H' R => R (itD a o u) H') (mi := fun e => .ok ds e) hnp hvs hsl (fun G2 H2 σ2 env2 Q E2 q => ?_) (ig _ hnp) (it _ hnp) (ie _ hnp) G Hl σ env Q' E' p'
    · exact iKeys_of hv hf isd key
    · have h2 : H2 a = some (.frz o u) := E2.f1 a _ upd_same nio
      have n2 : ¬ G2 a := fun z => by
        rcases E2.f3 a z with z | z
        · exact g0 z
        · rw [show (lockB B a (.frz o u)).H0 a = some (.frz o u) from upd_same] at z; cases z
      exact q G2 H2 _ E2 (wk o G2 H2 n2 h2) Ext.refl
  have na : ¬ Ow σ env a := fun z => ga (E.ow z)
  -- told of the first heap
  have fin : ∀ (o : Obj) (Hl : Hp) (Q' : V → Hp → Prop) (bk : Hp → Hp), SwH a u H Hl → Hl a = some (.frz o u) → (∀ H', H' a = some (.frz o u) → bk H' a = H a ∧ ∀ b, b ≠ a → bk H' b = H' b) → (∀ v H', H' a = some (.frz o u) → Q v (bk H') → Q' v H') →
      Post (lockB B a (.frz o u)) mg W (rV mg) G Hl σ env (mLc np vs (fun e => Res.ok ds e) mt mc me env) Q' := by
    intro o Hl Q' bk sw hf hbk hq
    generalize mLc np vs (fun e => Res.ok ds e) mt mc me env = r at p nox
    cases r with
    | exn c e => exact absurd rfl (nox c e)
    | stuck => exact p.elim
    | ok y env' =>
      intro G' H' w E2 r x
      have q1 : H' a = some (.frz o u) := x.e1 a _ hf na
      have ng : ¬ G' a := fun z => by
        rcases x.e3 a z with z | z
        · exact ga z
        · rw [hf] at z; cases z
      obtain ⟨b1, b2⟩ := hbk H' q1
      have sw' : SwH a u H' (bk H') := ⟨b2, isd, .inr ⟨o, q1⟩, by unfold Rd; rw [b1]; exact rd⟩
      have E3 : ER B mg G' (bk H') σ env' := E2.sw sw' ng rfl rfl rfl (fun b n => (upd_ne n).symm) (by
        cases q : B.H0 a with
        | none => exact .inl rfl
        | some w => exact .inr (by rw [b1]; exact (E.f1 a w q nio).symm))
      have dl : ∀ b, Hl b = none → H b = none := fun b h => by
        cases q : H b with
        | none => rfl
        | some w => exact absurd h (sw.there (by rw [q]; simp))
      refine hq w H' q1 (p G' (bk H') w E3 ?_ ⟨fun b w hb n => ?_, fun b h => ?_, fun b h => (x.e3 b h).imp id (dl b), x.e4, x.e5⟩)
      · cases y with
        | im d => exact Dn.sw sw' r
        | var k => exact r
        | tmp s =>
          obtain ⟨c, e1, t, n⟩ := r
          have nc : c ≠ a := fun z => ng (by rw [← z]; exact t.g)
          exact ⟨c, e1, ⟨t.g, dl c t.new, t.r.sw sw' nc⟩, n⟩
      · by_cases e : b = a
        · subst e; rw [b1]; exact hb
        · rw [b2 b e]
          exact x.e1 b w (by rw [sw.o b e]; exact hb) n
      · exact sw'.there (x.e2 b (sw.there h))
  rcases rd with hr | ⟨o, hr⟩
  · refine .inl ⟨a, u, hr, ?_, fun od => ?_⟩
    · rcases isd with ⟨ks, rfl⟩ | ⟨ks, rfl⟩ <;> trivial
    · have sw : SwH a u H (upd H a (.frz od u)) := ⟨fun b n => upd_ne n, isd, .inl hr, .inr ⟨od, upd_same⟩⟩
      exact main od _ _ sw upd_same (fin od _ _ (fun H' => upd H' a u) sw upd_same (fun H' _ => ⟨by rw [upd_same, hr], fun b n => upd_ne n⟩) fun v H' h q => ⟨h, q⟩)
  · have sw : SwH a u H H := ⟨fun _ _ => rfl, isd, .inr ⟨o, hr⟩, .inr ⟨o, hr⟩⟩
    exact .inr (main o H _ sw hr (fin o _ _ (fun H' => H') sw hr (fun H' h => ⟨by rw [h, hr], fun b n => rfl⟩) fun v H' h q => q))
theorem xlcD (hc : X.calm = true) (hNd : X.N.Nodup) (ok : BlkOk X.N X.env.scope scope own) (hg : ∀ B : Bs, B.np ≤ np → ∀ b, XG (blkX X scope b) B tg sl mt) (ht : ∀ B : Bs, B.np ≤ np → ∀ b, XTs (blkX X scope b) WF B ifs mc) (he : ∀ B : Bs, B.np ≤ np → ∀ b, XE (blkX X scope b) WF B elt me)
    (hnp : B.np ≤ np) (hvs : ∀ v ∈ own.map (·.2), np ≤ v) (hsl : ∀ k ∈ sl, k ∈ own.map (·.2)) (hN : X.N[j]? = some x := by rfl) (hv : Vis X.env.scope x := by first | exact Or.inl rfl | exact Or.inr (Or.inl rfl) | exact Or.inr (Or.inr rfl)) (hd : (x == ("__debug__" : Str)) = false := by decide)
    (hcd : (x == ("__classdict__" : Str)) = false := by decide) (hs : ∀ y, foldedSetIterable (.Name x px) X.env y = pure y := by intro _; rfl) :
    XE X W B (.ListComp elt [⟨tg, .Name x px, ifs, 0⟩] scope pos) (mLcD np (own.map (·.2)) j mt mc me) := by
  obtain ⟨g, pg, ig⟩ := all_bG hg
  obtain ⟨tt, pt, it⟩ := all_bT ht
  obtain ⟨te, pe, ie⟩ := all_bE he
  have pl := pe_lc (pos := pos) hc hNd (pi_keys (tg := tg) (pe_var (i := j) (pos := px) hN hv hd hcd)) ok (fun s H C cl fp => pg ⟨s, H, C, cl, fp⟩) (fun s H C cl fp => pt ⟨s, H, C, cl, fp⟩) (fun s H C cl fp => pe ⟨s, H, C, cl, fp⟩) hs
  exact .by_ (pe_or (pe_lock pl) pl) (imp_lcD hnp hvs hsl ig it ie)
theorem xs_setLcDI {i : Nat} {y : Str} {py spos : Pos} (hc : X.calm = true) (hNd : X.N.Nodup) (ok : BlkOk X.N X.env.scope scope own) (hg : ∀ B : Bs, B.np ≤ np → ∀ b, XG (blkX X scope b) B tg sl mt) (ht : ∀ B : Bs, B.np ≤ np → ∀ b, XTs (blkX X scope b) WF B ifs mc) (he : ∀ B : Bs, B.np ≤ np → ∀ b, XE (blkX X scope b) WF B elt me)
    (hnp : B.np ≤ np) (hvs : ∀ v ∈ own.map (·.2), np ≤ v) (hsl : ∀ k ∈ sl, k ∈ own.map (·.2)) (hsw : swapsWith (.ListComp elt [⟨tg, .Name x px, ifs, 0⟩] scope pos) (some (.Name y py)) spos.line X.env = pure true) (hy : X.N[i]? = some y := by rfl) (hyl : X.env.scope.names.lookup y = some .local := by rfl)
    (hN : X.N[j]? = some x := by rfl) (hv : Vis X.env.scope x := by first | exact Or.inl rfl | exact Or.inr (Or.inl rfl) | exact Or.inr (Or.inr rfl)) (hd : (x == ("__debug__" : Str)) = false := by decide)
    (hcd : (x == ("__classdict__" : Str)) = false := by decide) (hs : ∀ y, foldedSetIterable (.Name x px) X.env y = pure y := by intro _; rfl) :
    XS X W B (.Assign [.Name y py] (.ListComp elt [⟨tg, .Name x px, ifs, 0⟩] scope pos) spos) (sSetI np i (mLcD np (own.map (·.2)) j mt mc me)) := by
  obtain ⟨g, pg, ig⟩ := all_bG hg
  obtain ⟨tt, pt, it⟩ := all_bT ht
  obtain ⟨te, pe, ie⟩ := all_bE he
  have pl := ps_setLc (i := i) (pos := pos) (spos := spos) hc hNd hy hyl hsw (pi_keys (tg := tg) (pe_var (i := j) (pos := px) hN hv hd hcd)) ok (fun s H C cl fp => pg ⟨s, H, C, cl, fp⟩) (fun s H C cl fp => pt ⟨s, H, C, cl, fp⟩) (fun s H C cl fp => pe ⟨s, H, C, cl, fp⟩) hs
  refine ⟨⟨_, ps_or (ps_lock pl) pl, fun G H σ env D E p => ?_⟩⟩
  rw [setI_eq] at p
  have key := (imp_lcD (W := W) (j := j) hnp hvs hsl ig it ie).runS (D := D) (K := fun v H1 => D.nx (σ.set i (some v)) H1) E p fun x y env1 G1 H1 _ E1 r1 x1 p => by
    obtain ⟨d, e2, h2, p⟩ := PostS.inv p toI_nox
    obtain ⟨G2, E2, dn, x2, th, _⟩ := toI_ok E.gt E.f2 E1 x1 r1 hnp h2
    exact post_store (s := .im d) E2 hnp dn (fun z => by cases z) ((x1.fz E).trans th.fz) p
  rcases key with ⟨d, u, h1, h2, h3⟩ | h
  · exact .inl ⟨d, u, h1, h2, fun od => h3 od⟩
  · exact .inr h
end
end PL

set_option maxRecDepth 100000
namespace TL
open PySem PySem.Spec PyProof.Rows L2 PL
def m_is_integer : MS := (sRet 3 (mAndV (mIs "int" (mVar 0)) (mAndV (mNotV (mIs "bool" (mVar 0))) (mChain gLe gLe (mVar 1) (mVar 0) (mVar 2)))))
def f_is_integer : Fn := fnOf [false, false, false] 3 m_is_integer
def m_is_size : MS := (sRet 1 (mCall 1 [false, false, false] TL.f_is_integer (mCons (mVar 0) (mCons (mK (.int 1)) (mCons (mK (.int 16)) mNil)))))
def f_is_size : Fn := fnOf [false] 1 m_is_size
def m_are_items : MS := (sRet 2 (mAndV (mIs "tuple" (mVar 1)) (mCB gAll (mCons (mLc 2 [2] (mSeq 2 (mVar 1)) (tName 2 2) mYes (mCall 2 [false, false, false] TL.f_is_integer (mCons (mVar 2) (mCons (mK (.int 1)) (mCons (mVar 0) mNil))))) mNil))))
def f_are_items : Fn := fnOf [false, false] 3 m_are_items
def m_is_chosen : MS := (sRet 2 (mAndV (mCall 2 [false, false] TL.f_are_items (mCons (mVar 0) (mCons (mVar 1) mNil))) (mOp2 gEq (mSetI (fun ns => .im (.int ((dedupI ns).length : Nat))) (mVar 1)) (mCB gLen (mCons (mVar 1) mNil)))))
def f_is_chosen : Fn := fnOf [false, false] 2 m_is_chosen
def m_is_state : MS := (sRet 1 (mAndV (mIs "tuple" (mVar 0)) (mAndV (mOp2 gEq (mCB gLen (mCons (mVar 0) mNil)) (mK (.int 2))) (mAndV (mCall 1 [false] TL.f_is_size (mCons (mOp2 gIx (mVar 0) (mK (.int 0))) mNil)) (mCall 1 [false, false] TL.f_is_chosen (mCons (mOp2 gIx (mVar 0) (mK (.int 0))) (mCons (mOp2 gIx (mVar 0) (mK (.int 1))) mNil)))))))
def f_is_state : Fn := fnOf [false] 1 m_is_state
def m_require_state : MS := (sIf (mNot (mTru (mCall 1 [false] TL.f_is_state (mCons (mVar 0) mNil))))
    (sRaise "InvalidState")
    sNext)
def f_require_state : Fn := fnOf [false] 1 m_require_state
def m_left_of : MS := (sRet 2 (mLc 2 [2] (mRng2 (mK (.int 1)) (mOp2 gAdd (mVar 0) (mK (.int 1)))) (tName 2 2) (mB (mOp2 gNotIn (mVar 2) (mVar 1))) (mVar 2)))
def f_left_of : Fn := fnOf [false, false] 3 m_left_of
def m_left : MS := (sSeq (sDrop (mCall 1 [false] TL.f_require_state (mCons (mVar 0) mNil)))
    (sRet 1 (mCall 1 [false, false] TL.f_left_of (mCons (mOp2 gIx (mVar 0) (mK (.int 0))) (mCons (mOp2 gIx (mVar 0) (mK (.int 1))) mNil)))))
def f_left : Fn := fnOf [false] 1 m_left
def m_runs_of : MS := (sSeq (sSet 1 1 (mLst 1 mNil))
    (sSeq (sFor (mSeq 1 (mVar 0)) (tName 1 2)
    (sIf (mAnd (mTru (mVar 1)) (mB (mOp2 gLt (mOp2 gIx (mOp2 gIx (mVar 1) (mOp1 gNeg (mK (.int 1)))) (mOp1 gNeg (mK (.int 1)))) (mVar 2))))
    (sAugIx 1 gIAdd (mOp1 gNeg (mK (.int 1))) (mTup 1 (mCons (mVar 2) mNil)))
    (sDrop (mAppend 1 1 (mTup 1 (mCons (mVar 2) mNil))))))
    (sRet 1 (mVar 1))))
def f_runs_of : Fn := fnOf [false] 3 m_runs_of
def m_runs : MS := (sSeq (sDrop (mCall 1 [false] TL.f_require_state (mCons (mVar 0) mNil)))
    (sRet 1 (mCall 1 [false] TL.f_runs_of (mCons (mOp2 gIx (mVar 0) (mK (.int 1))) mNil))))
def f_runs : Fn := fnOf [false] 1 m_runs
def q_require_both_1 : MS := (sDrop (mCall 2 [false] TL.f_require_state (mCons (mVar 0) mNil)))
def q_require_both_2 : MS := (sRaise "InvalidState")
def q_require_both_3 : MS := (sIf (mOr (mNot (mTru (mCall 2 [false] TL.f_is_state (mCons (mVar 1) mNil)))) (mB (mOp2 gNe (mOp2 gIx (mVar 1) (mK (.int 0))) (mOp2 gIx (mVar 0) (mK (.int 0))))))
    TL.q_require_both_2
    sNext)
def b_require_both_4 : MS := (sSeq TL.q_require_both_1
    TL.q_require_both_3)
def m_require_both : MS := TL.b_require_both_4
def f_require_both : Fn := fnOf [false, false] 2 m_require_both
def q_kept_of_1 : MS := (sSet 2 2 (mTup 2 mNil))
def q_kept_of_2 : MS := (sAug 2 2 gIAdd (mTup 2 (mCons (mVar 3) mNil)))
def q_kept_of_3 : MS := (sIf (mAnd (mB (mOp2 gLt (mCB gLen (mCons (mVar 2) mNil)) (mCB gLen (mCons (mVar 1) mNil)))) (mB (mOp2 gEq (mOp2 gIx (mVar 1) (mCB gLen (mCons (mVar 2) mNil))) (mVar 3))))
    TL.q_kept_of_2
    sNext)
def q_kept_of_4 : MS := (sFor (mSeq 2 (mVar 0)) (tName 2 3)
    TL.q_kept_of_3)
def q_kept_of_5 : MS := (sRet 2 (mVar 2))
def b_kept_of_6 : MS := (sSeq TL.q_kept_of_1
    (sSeq TL.q_kept_of_4
    TL.q_kept_of_5))
def m_kept_of : MS := TL.b_kept_of_6
def f_kept_of : Fn := fnOf [false, false] 4 m_kept_of
def q_away_1 : MS := (sSetI 2 2 (mCall 2 [false, false] TL.f_kept_of (mCons (mVar 0) (mCons (mVar 1) mNil))))
def q_away_2 : MS := (sRet 2 (mOp2 gAdd (mCB gInt (mCons (mOp2 gNe (mVar 2) (mVar 0)) mNil)) (mCB gLen (mCons (mCall 2 [false] TL.f_runs_of (mCons (mSlice (mVar 1) (mPart (mCB gLen (mCons (mVar 2) mNil))) mNoPart) mNil)) mNil))))
def b_away_3 : MS := (sSeq TL.q_away_1
    TL.q_away_2)
def m_away : MS := TL.b_away_3
def f_away : Fn := fnOf [false, false] 3 m_away
def q_kept_1 : MS := (sDrop (mCall 2 [false, false] TL.f_require_both (mCons (mVar 0) (mCons (mVar 1) mNil))))
def q_kept_2 : MS := (sRet 2 (mCall 2 [false, false] TL.f_kept_of (mCons (mOp2 gIx (mVar 0) (mK (.int 1))) (mCons (mOp2 gIx (mVar 1) (mK (.int 1))) mNil))))
def b_kept_3 : MS := (sSeq TL.q_kept_1
    TL.q_kept_2)
def m_kept : MS := TL.b_kept_3
def f_kept : Fn := fnOf [false, false] 2 m_kept
def q_distance_1 : MS := (sDrop (mCall 2 [false, false] TL.f_require_both (mCons (mVar 0) (mCons (mVar 1) mNil))))
def q_distance_2 : MS := (sRet 2 (mCall 2 [false, false] TL.f_away (mCons (mOp2 gIx (mVar 0) (mK (.int 1))) (mCons (mOp2 gIx (mVar 1) (mK (.int 1))) mNil))))
def b_distance_3 : MS := (sSeq TL.q_distance_1
    TL.q_distance_2)
def m_distance : MS := TL.b_distance_3
def f_distance : Fn := fnOf [false, false] 2 m_distance
def q_require_number_1 : MS := (sRaise "InvalidNumber")
def q_require_number_2 : MS := (sIf (mNot (mTru (mCall 1 [false, false, false] TL.f_is_integer (mCons (mVar 0) (mCons (mK (.int 0)) (mCons (mK (.int 16)) mNil))))))
    TL.q_require_number_1
    sNext)
def m_require_number : MS := TL.q_require_number_2
def f_require_number : Fn := fnOf [false] 1 m_require_number
def q_all_lists_1 : MS := (sPar 1 [1, 2] (mCons (mLst 1 (mCons (mTup 1 mNil) mNil)) (mCons (mLst 1 (mCons (mTup 1 mNil) mNil)) mNil)))
def q_all_lists_2 : MS := (sSet 1 2 (mLc2 1 [3, 4] [4] (mSeq 1 (mVar 2)) (tName 1 3) mYes (mSeq 1 (mCall 1 [false, false] TL.f_left_of (mCons (mVar 0) (mCons (mVar 3) mNil)))) (tName 1 4) mYes (mOp2 gAdd (mVar 3) (mTup 1 (mCons (mVar 4) mNil)))))
def q_all_lists_3 : MS := (sExt 1 (mVar 2))
def b_all_lists_4 : MS := (sSeq TL.q_all_lists_2
    TL.q_all_lists_3)
def q_all_lists_5 : MS := (whileS (mTru (mVar 2))
    TL.b_all_lists_4 1000)
def q_all_lists_6 : MS := (sRet 1 (mVar 1))
def b_all_lists_7 : MS := (sSeq TL.q_all_lists_1
    (sSeq TL.q_all_lists_5
    TL.q_all_lists_6))
def m_all_lists : MS := TL.b_all_lists_7
def f_all_lists : Fn := fnOf [false] 5 m_all_lists
def q_count_at_k01_1 : MS := (sDrop (mCall 2 [false] TL.f_require_state (mCons (mVar 0) mNil)))
def q_count_at_k01_2 : MS := (sDrop (mCall 2 [false] TL.f_require_number (mCons (mVar 1) mNil)))
def q_count_at_k01_3 : MS := (sRaise "TooLarge")
def q_count_at_k01_4 : MS := (sIf (mB (mOp2 gGt (mOp2 gIx (mVar 0) (mK (.int 0))) (mK (.int 5))))
    TL.q_count_at_k01_3
    sNext)
def q_count_at_k01_5 : MS := (sRet 2 (mCB gLen (mCons (mLc 2 [2] (mSeq 2 (mCall 2 [false] TL.f_all_lists (mCons (mOp2 gIx (mVar 0) (mK (.int 0))) mNil))) (tName 2 2) (mB (mOp2 gEq (mCall 2 [false, false] TL.f_away (mCons (mOp2 gIx (mVar 0) (mK (.int 1))) (mCons (mVar 2) mNil))) (mVar 1))) (mVar 2)) mNil)))
def b_count_at_k01_6 : MS := (sSeq TL.q_count_at_k01_1
    (sSeq TL.q_count_at_k01_2
    (sSeq TL.q_count_at_k01_4
    TL.q_count_at_k01_5)))
def m_count_at_k01 : MS := TL.b_count_at_k01_6
def f_count_at_k01 : Fn := fnOf [false, false] 3 m_count_at_k01
def q_stretches_1 : MS := (sSet 2 2 (mLst 2 mNil))
def q_stretches_2 : MS := (sSetI 2 5 (mCall 2 [false, false] TL.f_left_of (mCons (mVar 0) (mCons (mSlice (mVar 1) mNoPart (mPart (mVar 3))) mNil))))
def q_stretches_3 : MS := (sAugIx 2 gIAdd (mOp1 gNeg (mK (.int 1))) (mTup 2 (mCons (mVar 4) mNil)))
def q_stretches_4 : MS := (sDrop (mAppend 2 2 (mTup 2 (mCons (mVar 4) mNil))))
def q_stretches_5 : MS := (sIf (mAnd (mTru (mVar 2)) (mAnd (mB (mOp2 gLt (mOp2 gIx (mOp2 gIx (mVar 2) (mOp1 gNeg (mK (.int 1)))) (mOp1 gNeg (mK (.int 1)))) (mVar 4))) (mNot (mTru (mCB gAny (mCons (mLc 2 [6] (mSeq 2 (mVar 5)) (tName 2 6) mYes (mChain gLt gLt (mOp2 gIx (mOp2 gIx (mVar 2) (mOp1 gNeg (mK (.int 1)))) (mOp1 gNeg (mK (.int 1)))) (mVar 6) (mVar 4))) mNil))))))
    TL.q_stretches_3
    TL.q_stretches_4)
def b_stretches_6 : MS := (sSeq TL.q_stretches_2
    TL.q_stretches_5)
def q_stretches_7 : MS := (sFor (mEnum 2 (mVar 1)) (tTuple 2 (tsCons (tName 2 3) (tsCons (tName 2 4) tsNil)))
    TL.b_stretches_6)
def q_stretches_8 : MS := (sRet 2 (mVar 2))
def b_stretches_9 : MS := (sSeq TL.q_stretches_1
    (sSeq TL.q_stretches_7
    TL.q_stretches_8))
def m_stretches : MS := TL.b_stretches_9
def f_stretches : Fn := fnOf [false, false] 7 m_stretches
def q_neighbor_adds_1 : MS := (sDrop (mCall 1 [false] TL.f_require_state (mCons (mVar 0) mNil)))
def q_neighbor_adds_2 : MS := (sRet 1 (mCB gLen (mCons (mCall 1 [false, false] TL.f_stretches (mCons (mOp2 gIx (mVar 0) (mK (.int 0))) (mCons (mOp2 gIx (mVar 0) (mK (.int 1))) mNil))) mNil)))
def b_neighbor_adds_3 : MS := (sSeq TL.q_neighbor_adds_1
    TL.q_neighbor_adds_2)
def m_neighbor_adds : MS := TL.b_neighbor_adds_3
def f_neighbor_adds : Fn := fnOf [false] 1 m_neighbor_adds
def q_neighbor_script_1 : MS := (sDrop (mCall 1 [false] TL.f_require_state (mCons (mVar 0) mNil)))
def q_neighbor_script_2 : MS := (sRet 1 (mCB gTuple (mCons (mLc 1 [1] (mSeq 1 (mCall 1 [false, false] TL.f_stretches (mCons (mOp2 gIx (mVar 0) (mK (.int 0))) (mCons (mOp2 gIx (mVar 0) (mK (.int 1))) mNil)))) (tName 1 1) mYes (mTup 1 (mCons (mK (.str "add")) (mCons (mVar 1) mNil)))) mNil)))
def b_neighbor_script_3 : MS := (sSeq TL.q_neighbor_script_1
    TL.q_neighbor_script_2)
def m_neighbor_script : MS := TL.b_neighbor_script_3
def f_neighbor_script : Fn := fnOf [false] 2 m_neighbor_script
def m_ascends : MS := (sRet 1 (mCB gAll (mCons (mLc 1 [1, 2] (mZip 1 (mVar 0) (mSlice (mVar 0) (mPart (mK (.int 1))) mNoPart)) (tTuple 2 (tsCons (tName 1 1) (tsCons (tName 1 2) tsNil))) mYes (mOp2 gLt (mVar 1) (mVar 2))) mNil)))
def f_ascends : Fn := fnOf [false] 3 m_ascends
def m_is_operation : MS := (sSeq (sIf (mOr (mNot (mTru (mIs "tuple" (mVar 1)))) (mOr (mB (mOp2 gNe (mCB gLen (mCons (mVar 1) mNil)) (mK (.int 2)))) (mNot (mTru (mIs "str" (mOp2 gIx (mVar 1) (mK (.int 0))))))))
    (sRet 2 (mK (.bool false)))
    sNext)
    (sSeq (sIf (mOr (mB (mOp2 gNotIn (mOp2 gIx (mVar 1) (mK (.int 0))) (mTup 2 (mCons (mK (.str "add")) (mCons (mK (.str "remove")) mNil))))) (mNot (mTru (mCall 2 [false, false] TL.f_are_items (mCons (mVar 0) (mCons (mOp2 gIx (mVar 1) (mK (.int 1))) mNil))))))
    (sRet 2 (mK (.bool false)))
    sNext)
    (sRet 2 (mAndV (mOp2 gGt (mCB gLen (mCons (mOp2 gIx (mVar 1) (mK (.int 1))) mNil)) (mK (.int 0))) (mCall 2 [false] TL.f_ascends (mCons (mOp2 gIx (mVar 1) (mK (.int 1))) mNil))))))
def f_is_operation : Fn := fnOf [false, false] 2 m_is_operation
def m_are_operations : MS := (sRet 3 (mAndV (mIs "tuple" (mVar 1)) (mAndV (mOp2 gLe (mCB gLen (mCons (mVar 1) mNil)) (mVar 2)) (mCB gAll (mCons (mLc 3 [3] (mSeq 3 (mVar 1)) (tName 3 3) mYes (mCall 3 [false, false] TL.f_is_operation (mCons (mVar 0) (mCons (mVar 3) mNil)))) mNil)))))
def f_are_operations : Fn := fnOf [false, false, false] 4 m_are_operations
def m_after : MS := (sSeq (sUnp 2 (tTuple 2 (tsCons (tName 2 2) (tsCons (tName 2 3) tsNil))) (mVar 1))
    (sSeq (sIf (mB (mOp2 gEq (mVar 2) (mK (.str "add"))))
    (sRet 2 (mOp2 gAdd (mVar 0) (mCB gTuple (mCons (mLc 2 [4] (mSeq 2 (mVar 3)) (tName 2 4) (mB (mOp2 gNotIn (mVar 4) (mVar 0))) (mVar 4)) mNil))))
    sNext)
    (sRet 2 (mCB gTuple (mCons (mLc 2 [4] (mSeq 2 (mVar 0)) (tName 2 4) (mB (mOp2 gNotIn (mVar 4) (mVar 3))) (mVar 4)) mNil)))))
def f_after : Fn := fnOf [false, false] 5 m_after
def m_last_of : MS := (sSeq (sFor (mSeq 2 (mVar 1)) (tName 2 2)
    (sSet 2 0 (mCall 2 [false, false] TL.f_after (mCons (mVar 0) (mCons (mVar 2) mNil)))))
    (sRet 2 (mVar 0)))
def f_last_of : Fn := fnOf [false, false] 3 m_last_of
def m_require_script : MS := (sIf (mNot (mTru (mCall 3 [false, false, false] TL.f_are_operations (mCons (mVar 0) (mCons (mVar 1) (mCons (mVar 2) mNil))))))
    (sRaise "InvalidScript")
    sNext)
def f_require_script : Fn := fnOf [false, false, false] 3 m_require_script
def q_run_1 : MS := (sDrop (mCall 2 [false] TL.f_require_state (mCons (mVar 0) mNil)))
def q_run_2 : MS := (sDrop (mCall 2 [false, false, false] TL.f_require_script (mCons (mOp2 gIx (mVar 0) (mK (.int 0))) (mCons (mVar 1) (mCons (mK (.int 40)) mNil)))))
def q_run_3 : MS := (sRet 2 (mTup 2 (mCons (mOp2 gIx (mVar 0) (mK (.int 0))) (mCons (mCall 2 [false, false] TL.f_last_of (mCons (mOp2 gIx (mVar 0) (mK (.int 1))) (mCons (mVar 1) mNil))) mNil))))
def b_run_4 : MS := (sSeq TL.q_run_1
    (sSeq TL.q_run_2
    TL.q_run_3))
def m_run : MS := TL.b_run_4
def f_run : Fn := fnOf [false, false] 2 m_run
def q_smallest_1 : MS := (sSetI 2 4 (mIf (mB (mOp2 gEq (mVar 2) (mK (.str "add")))) (mVar 0) (mVar 1)))
def q_smallest_2 : MS := (sSetI 2 5 (mCB gTuple (mCons (mCB gSorted (mCons (mLc 2 [6] (mSeq 2 (mVar 3)) (tName 2 6) (mB (mOp2 gNotIn (mVar 6) (mVar 4))) (mVar 6)) mNil)) mNil)))
def q_smallest_3 : MS := (sRet 2 (mTup 2 (mCons (mVar 2) (mCons (mVar 5) mNil))))
def q_smallest_4 : MS := (sIf (mAnd (mTru (mVar 5)) (mB (mOp2 gEq (mCall 2 [false, false] TL.f_after (mCons (mVar 0) (mCons (mTup 2 (mCons (mVar 2) (mCons (mVar 5) mNil))) mNil))) (mVar 1))))
    TL.q_smallest_3
    sNext)
def b_smallest_5 : MS := (sSeq TL.q_smallest_1
    (sSeq TL.q_smallest_2
    TL.q_smallest_4))
def q_smallest_6 : MS := (sFor (mSeq 2 (mTup 2 (mCons (mTup 2 (mCons (mK (.str "add")) (mCons (mVar 1) mNil))) (mCons (mTup 2 (mCons (mK (.str "remove")) (mCons (mVar 0) mNil))) mNil)))) (tTuple 2 (tsCons (tName 2 2) (tsCons (tName 2 3) tsNil)))
    TL.b_smallest_5)
def q_smallest_7 : MS := (sRet 2 (mK .none))
def b_smallest_8 : MS := (sSeq TL.q_smallest_6
    TL.q_smallest_7)
def m_smallest : MS := TL.b_smallest_8
def f_smallest : Fn := fnOf [false, false] 7 m_smallest
def q_single_operation_1 : MS := (sDrop (mCall 2 [false, false] TL.f_require_both (mCons (mVar 0) (mCons (mVar 1) mNil))))
def q_single_operation_2 : MS := (sRet 2 (mCall 2 [false, false] TL.f_smallest (mCons (mOp2 gIx (mVar 0) (mK (.int 1))) (mCons (mOp2 gIx (mVar 1) (mK (.int 1))) mNil))))
def b_single_operation_3 : MS := (sSeq TL.q_single_operation_1
    TL.q_single_operation_2)
def m_single_operation : MS := TL.b_single_operation_3
def f_single_operation : Fn := fnOf [false, false] 2 m_single_operation
def q_is_pair_1 : MS := (sRet 2 (mK (.bool false)))
def q_is_pair_2 : MS := (sIf (mOr (mNot (mTru (mIs "tuple" (mVar 1)))) (mOr (mB (mOp2 gNe (mCB gLen (mCons (mVar 1) mNil)) (mK (.int 2)))) (mNot (mTru (mCall 2 [false, false] TL.f_are_items (mCons (mK (.int 16)) (mCons (mVar 1) mNil)))))))
    TL.q_is_pair_1
    sNext)
def q_is_pair_3 : MS := (sRet 2 (mAndV (mOp2 gIn (mOp2 gIx (mVar 1) (mK (.int 0))) (mVar 0)) (mAndV (mOp2 gIn (mOp2 gIx (mVar 1) (mK (.int 1))) (mVar 0)) (mOp2 gNe (mOp2 gIx (mVar 1) (mK (.int 0))) (mOp2 gIx (mVar 1) (mK (.int 1)))))))
def b_is_pair_4 : MS := (sSeq TL.q_is_pair_2
    TL.q_is_pair_3)
def m_is_pair : MS := TL.b_is_pair_4
def f_is_pair : Fn := fnOf [false, false] 2 m_is_pair
def q_is_wish_1 : MS := (sRet 2 (mK (.bool false)))
def q_is_wish_2 : MS := (sIf (mOr (mNot (mTru (mIs "tuple" (mVar 1)))) (mOr (mB (mOp2 gNe (mCB gLen (mCons (mVar 1) mNil)) (mK (.int 2)))) (mOr (mNot (mTru (mCall 2 [false, false] TL.f_are_items (mCons (mVar 0) (mCons (mOp2 gIx (mVar 1) (mK (.int 0))) mNil))))) (mNot (mTru (mCall 2 [false] TL.f_ascends (mCons (mOp2 gIx (mVar 1) (mK (.int 0))) mNil)))))))
    TL.q_is_wish_1
    sNext)
def q_is_wish_3 : MS := (sRet 2 (mK (.bool false)))
def q_is_wish_4 : MS := (sIf (mOr (mNot (mTru (mIs "tuple" (mOp2 gIx (mVar 1) (mK (.int 1)))))) (mB (mOp2 gGt (mCB gLen (mCons (mOp2 gIx (mVar 1) (mK (.int 1))) mNil)) (mK (.int 40)))))
    TL.q_is_wish_3
    sNext)
def q_is_wish_5 : MS := (sRet 2 (mAndV (mCB gAll (mCons (mLc 2 [2] (mSeq 2 (mOp2 gIx (mVar 1) (mK (.int 1)))) (tName 2 2) mYes (mCall 2 [false, false] TL.f_is_pair (mCons (mOp2 gIx (mVar 1) (mK (.int 0))) (mCons (mVar 2) mNil)))) mNil)) (mCall 2 [false] TL.f_ascends (mCons (mOp2 gIx (mVar 1) (mK (.int 1))) mNil))))
def b_is_wish_6 : MS := (sSeq TL.q_is_wish_2
    (sSeq TL.q_is_wish_4
    TL.q_is_wish_5))
def m_is_wish : MS := TL.b_is_wish_6
def f_is_wish : Fn := fnOf [false, false] 3 m_is_wish
def q_require_wish_1 : MS := (sRaise "InvalidWish")
def q_require_wish_2 : MS := (sIf (mNot (mTru (mCall 2 [false, false] TL.f_is_wish (mCons (mVar 0) (mCons (mVar 1) mNil)))))
    TL.q_require_wish_1
    sNext)
def m_require_wish : MS := TL.q_require_wish_2
def f_require_wish : Fn := fnOf [false, false] 2 m_require_wish
def q_firsts_1 : MS := (sRet 2 (mLc 2 [2, 3] (mSeq 2 (mVar 0)) (tTuple 2 (tsCons (tName 2 2) (tsCons (tName 2 3) tsNil))) (mB (mOp2 gEq (mVar 3) (mVar 1))) (mVar 2)))
def m_firsts : MS := TL.q_firsts_1
def f_firsts : Fn := fnOf [false, false] 4 m_firsts
def q_free_items_1 : MS := (sSet 2 2 (mLst 2 mNil))
def q_free_items_2 : MS := (sSetI 2 3 (mLc 2 [4] (mSeq 2 (mVar 0)) (tName 2 4) (mB (mOp2 gNotIn (mVar 4) (mVar 2))) (mVar 4)))
def q_free_items_3 : MS := (sSetI 2 3 (mLc 2 [4] (mSeq 2 (mVar 3)) (tName 2 4) (mTru (mCB gAll (mCons (mLc 2 [5] (mSeq 2 (mCall 2 [false, false] TL.f_firsts (mCons (mVar 1) (mCons (mVar 4) mNil)))) (tName 2 5) mYes (mOrV (mOp2 gIn (mVar 5) (mVar 2)) (mOp2 gNotIn (mVar 5) (mVar 0)))) mNil))) (mVar 4)))
def q_free_items_4 : MS := (sRet 2 (mVar 2))
def q_free_items_5 : MS := (sIf (mNot (mTru (mVar 3)))
    TL.q_free_items_4
    sNext)
def q_free_items_6 : MS := (sExt 2 (mVar 3))
def b_free_items_7 : MS := (sSeq TL.q_free_items_2
    (sSeq TL.q_free_items_3
    (sSeq TL.q_free_items_5
    TL.q_free_items_6)))
def q_free_items_8 : MS := (whileS (mTru (mK (.bool true)))
    TL.b_free_items_7 1000)
def b_free_items_9 : MS := (sSeq TL.q_free_items_1
    TL.q_free_items_8)
def m_free_items : MS := TL.b_free_items_9
def f_free_items : Fn := fnOf [false, false] 6 m_free_items
def q_kept_from_1 : MS := (sUnp 2 (tTuple 2 (tsCons (tName 2 2) (tsCons (tName 2 3) tsNil))) (mVar 1))
def q_kept_from_2 : MS := (sSet 2 4 (mTup 2 mNil))
def q_kept_from_3 : MS := (sAug 2 4 gIAdd (mTup 2 (mCons (mVar 5) mNil)))
def q_kept_from_4 : MS := (sIf (mAnd (mB (mOp2 gIn (mVar 5) (mVar 2))) (mTru (mCB gAll (mCons (mLc 2 [6] (mSeq 2 (mCall 2 [false, false] TL.f_firsts (mCons (mVar 3) (mCons (mVar 5) mNil)))) (tName 2 6) mYes (mOp2 gIn (mVar 6) (mVar 4))) mNil))))
    TL.q_kept_from_3
    sNext)
def q_kept_from_5 : MS := (sFor (mSeq 2 (mVar 0)) (tName 2 5)
    TL.q_kept_from_4)
def q_kept_from_6 : MS := (sRet 2 (mVar 4))
def b_kept_from_7 : MS := (sSeq TL.q_kept_from_1
    (sSeq TL.q_kept_from_2
    (sSeq TL.q_kept_from_5
    TL.q_kept_from_6)))
def m_kept_from : MS := TL.b_kept_from_7
def f_kept_from : Fn := fnOf [false, false] 7 m_kept_from
def q_levels_1 : MS := (sUnp 2 (tTuple 2 (tsCons (tName 2 2) (tsCons (tName 2 3) tsNil))) (mVar 1))
def q_levels_2 : MS := (sSetI 2 4 (mCall 2 [false, false] TL.f_kept_from (mCons (mVar 0) (mCons (mVar 1) mNil))))
def q_levels_3 : MS := (sSetI 2 5 (mLc 2 [7] (mSeq 2 (mVar 2)) (tName 2 7) (mB (mOp2 gNotIn (mVar 7) (mVar 4))) (mVar 7)))
def q_levels_4 : MS := (sSet 2 6 mDK)
def q_levels_5 : MS := (sSetI 2 8 (mTup 2 (mCons (mK (.int 1)) (mCons (mK .none) mNil))))
def q_levels_6 : MS := (sSetI 2 10 (mOp2 gAdd (mOp2 gIx (mOp2 gDIx (mVar 6) (mVar 9)) (mK (.int 0))) (mCB gInt (mCons (mOp2 gGt (mVar 9) (mVar 7)) mNil))))
def q_levels_7 : MS := (sSetI 2 8 (mTup 2 (mCons (mVar 10) (mCons (mVar 9) mNil))))
def q_levels_8 : MS := (sIf (mOr (mB (mOp2 gIs (mOp2 gIx (mVar 8) (mK (.int 1))) (mK .none))) (mB (mOp2 gGt (mVar 10) (mOp2 gIx (mVar 8) (mK (.int 0))))))
    TL.q_levels_7
    sNext)
def b_levels_9 : MS := (sSeq TL.q_levels_6
    TL.q_levels_8)
def q_levels_10 : MS := (sIf (mB (mOp2 gDIn (mVar 9) (mVar 6)))
    TL.b_levels_9
    sNext)
def q_levels_11 : MS := (sFor (mSeq 2 (mCall 2 [false, false] TL.f_firsts (mCons (mVar 3) (mCons (mVar 7) mNil)))) (tName 2 9)
    TL.q_levels_10)
def q_levels_12 : MS := (sPutD 2 6 (mVar 7) (mVar 8))
def b_levels_13 : MS := (sSeq TL.q_levels_5
    (sSeq TL.q_levels_11
    TL.q_levels_12))
def q_levels_14 : MS := (sFor (mSeq 2 (mCall 2 [false, false] TL.f_free_items (mCons (mVar 5) (mCons (mVar 3) mNil)))) (tName 2 7)
    TL.b_levels_13)
def q_levels_15 : MS := (sRet 2 (mTup 2 (mCons (mVar 4) (mCons (mVar 6) mNil))))
def b_levels_16 : MS := (sSeq TL.q_levels_1
    (sSeq TL.q_levels_2
    (sSeq TL.q_levels_3
    (sSeq TL.q_levels_4
    (sSeq TL.q_levels_14
    TL.q_levels_15)))))
def m_levels : MS := TL.b_levels_16
def f_levels : Fn := fnOf [false, false] 11 m_levels
def m__law_bag : MS := (sSeq (sSet 2 2 (mK (.int 0)))
    (sSeq (sIf (mB (mOp2 gLt (mVar 1) (mCB gLen (mCons (mVar 0) mNil))))
    (sSet 2 2 (mOp2 gMod (mOp2 gIx (mVar 0) (mVar 1)) (mOp2 gPow (mK (.int 10)) (mK (.int 60)))))
    sNext)
    (sSeq (sSet 2 3 (mOp2 gAdd (mK (.int 1)) (mOp2 gMod (mOp2 gAdd (mOp2 gAdd (mOp2 gAdd (mOp2 gMul (mOp2 gMod (mVar 2) (mK (.int 2147483629))) (mK (.int 16807))) (mOp2 gMul (mOp2 gMul (mK (.int 40009)) (mVar 1)) (mVar 1))) (mOp2 gMul (mK (.int 7919)) (mVar 1))) (mK (.int 1009))) (mK (.int 2147483645)))))
    (sSeq (sIf (mB (mOp2 gLt (mVar 2) (mOp2 gPow (mK (.int 10)) (mK (.int 18)))))
    (sRet 2 (mLst 2 (mCons (mK (.int 0)) (mCons (mVar 3) mNil))))
    sNext)
    (sRet 2 (mLst 2 (mCons (mVar 2) (mCons (mVar 3) mNil))))))))
def f__law_bag : Fn := fnOf [false, false] 4 m__law_bag
def m__law_take : MS := (sSeq (sIf (mB (mOp2 gGt (mOp2 gIx (mVar 0) (mK (.int 0))) (mK (.int 0))))
    (sSeq (sSet 2 2 (mOp2 gMod (mOp2 gIx (mVar 0) (mK (.int 0))) (mVar 1)))
    (sSeq (sSetIx 2 0 (mOp2 gDiv (mOp2 gIx (mVar 0) (mK (.int 0))) (mVar 1)) (mK (.int 0)))
    (sRet 2 (mVar 2))))
    sNext)
    (sSeq (sSetIx 2 0 (mOp2 gMod (mOp2 gMul (mOp2 gIx (mVar 0) (mK (.int 1))) (mK (.int 48271))) (mK (.int 2147483647))) (mK (.int 1)))
    (sRet 2 (mOp2 gMod (mOp2 gDiv (mOp2 gMod (mOp2 gMul (mOp2 gDiv (mOp2 gIx (mVar 0) (mK (.int 1))) (mK (.int 13))) (mOp2 gAdd (mOp2 gMod (mOp2 gIx (mVar 0) (mK (.int 1))) (mK (.int 32749))) (mK (.int 17)))) (mK (.int 2147483629))) (mK (.int 32))) (mVar 1)))))
def f__law_take : Fn := fnOf [true, false] 3 m__law_take
def m__law_of : MS := (sRet 2 (mOp2 gIx (mVar 1) (mCall 2 [true, false] TL.f__law_take (mCons (mVar 0) (mCons (mCB gLen (mCons (mVar 1) mNil)) mNil)))))
def f__law_of : Fn := fnOf [true, false] 2 m__law_of
def m__law_some : MS := (sSeq (sSet 3 3 (mLc 3 [4] (mSeq 3 (mVar 1)) (tName 3 4) (mB (mOp2 gEq (mCall 3 [true, false] TL.f__law_take (mCons (mVar 0) (mCons (mK (.int 2)) mNil))) (mK (.int 0)))) (mVar 4)))
    (sSeq (whileS (mB (mOp2 gLt (mCB gLen (mCons (mVar 3) mNil)) (mVar 2)))
    (sSet 3 3 (mLst 3 (mCons (mCall 3 [true, false] TL.f__law_of (mCons (mVar 0) (mCons (mVar 1) mNil))) mNil))) 1000)
    (sRet 3 (mCB gTuple (mCons (mVar 3) mNil)))))
def f__law_some : Fn := fnOf [true, false, false] 5 m__law_some
def m__law_list : MS := (sSeq (sPar 2 [2, 3] (mCons (mRgL rfL (mK (.int 1)) (mOp2 gAdd (mVar 1) (mK (.int 1)))) (mCons (mTup 2 mNil) mNil)))
    (sSeq (sFor (mRng1 (mCall 2 [true, false] TL.f__law_take (mCons (mVar 0) (mCons (mOp2 gAdd (mVar 1) (mK (.int 1))) mNil)))) (tName 2 4)
    (sSet 2 3 (mOp2 gAdd (mVar 3) (mTup 2 (mCons (mPopAt 2 (mCall 2 [true, false] TL.f__law_of (mCons (mVar 0) (mCons (mLst 2 (mCons (mK (.int 0)) (mCons (mCall 2 [true, false] TL.f__law_take (mCons (mVar 0) (mCons (mCB gLen (mCons (mVar 2) mNil)) mNil))) mNil))) mNil)))) mNil)))))
    (sRet 2 (mVar 3))))
def f__law_list : Fn := fnOf [true, false] 5 m__law_list
def m__law_state : MS := (sSeq (sSet 2 2 (mOp2 gAdd (mK (.int 1)) (mCall 2 [true, false] TL.f__law_take (mCons (mVar 0) (mCons (mVar 1) mNil)))))
    (sRet 2 (mTup 2 (mCons (mVar 2) (mCons (mCall 2 [true, false] TL.f__law_list (mCons (mVar 0) (mCons (mVar 2) mNil))) mNil)))))
def f__law_state : Fn := fnOf [true, false] 3 m__law_state
def m__law_step : MS := (sRet 2 (mTup 2 (mCons (mCall 2 [true, false] TL.f__law_of (mCons (mVar 0) (mCons (mLst 2 (mCons (mK (.str "add")) (mCons (mK (.str "add")) (mCons (mK (.str "remove")) mNil)))) mNil))) (mCons (mCall 2 [true, false, false] TL.f__law_some (mCons (mVar 0) (mCons (mRgL rfL (mK (.int 1)) (mOp2 gAdd (mVar 1) (mK (.int 1)))) (mCons (mK (.int 1)) mNil)))) mNil))))
def f__law_step : Fn := fnOf [true, false] 2 m__law_step
def q__law_int_1 : MS := (sRet 3 (mAndV (mIs "int" (mVar 0)) (mAndV (mNotV (mIs "bool" (mVar 0))) (mChain gLe gLe (mVar 1) (mVar 0) (mVar 2)))))
def m__law_int : MS := TL.q__law_int_1
def f__law_int : Fn := fnOf [false, false, false] 3 m__law_int
def q__law_is_state_1 : MS := (sRet 1 (mK (.bool false)))
def q__law_is_state_2 : MS := (sIf (mOr (mNot (mTru (mIs "tuple" (mVar 0)))) (mOr (mB (mOp2 gNe (mCB gLen (mCons (mVar 0) mNil)) (mK (.int 2)))) (mNot (mTru (mCall 1 [false, false, false] TL.f__law_int (mCons (mOp2 gIx (mVar 0) (mK (.int 0))) (mCons (mK (.int 1)) (mCons (mK (.int 16)) mNil))))))))
    TL.q__law_is_state_1
    sNext)
def q__law_is_state_3 : MS := (sRet 1 (mK (.bool false)))
def q__law_is_state_4 : MS := (sIf (mOr (mNot (mTru (mIs "tuple" (mOp2 gIx (mVar 0) (mK (.int 1)))))) (mB (mOp2 gNe (mLc 1 [1] (mSeq 1 (mOp2 gIx (mVar 0) (mK (.int 1)))) (tName 1 1) (mNot (mTru (mCall 1 [false, false, false] TL.f__law_int (mCons (mVar 1) (mCons (mK (.int 1)) (mCons (mOp2 gIx (mVar 0) (mK (.int 0))) mNil)))))) (mVar 1)) (mLst 1 mNil))))
    TL.q__law_is_state_3
    sNext)
def q__law_is_state_5 : MS := (sRet 1 (mOp2 gEq (mCB gLen (mCons (mOp2 gIx (mVar 0) (mK (.int 1))) mNil)) (mSetI (fun ns => .im (.int ((dedupI ns).length : Nat))) (mOp2 gIx (mVar 0) (mK (.int 1))))))
def b__law_is_state_6 : MS := (sSeq TL.q__law_is_state_2
    (sSeq TL.q__law_is_state_4
    TL.q__law_is_state_5))
def m__law_is_state : MS := TL.b__law_is_state_6
def f__law_is_state : Fn := fnOf [false] 2 m__law_is_state
def m_require_size : MS := (sIf (mNot (mTru (mCall 1 [false] TL.f_is_size (mCons (mVar 0) mNil))))
    (sRaise "InvalidSize")
    sNext)
def f_require_size : Fn := fnOf [false] 1 m_require_size
def m_is_script : MS := (sSeq (sDrop (mCall 2 [false] TL.f_require_size (mCons (mVar 0) mNil)))
    (sRet 2 (mCall 2 [false, false, false] TL.f_are_operations (mCons (mVar 0) (mCons (mVar 1) (mCons (mK (.int 40)) mNil))))))
def f_is_script : Fn := fnOf [false, false] 2 m_is_script
def m__law_runs_right : MS := (sSeq (sSet 2 2 (mTup 2 mNil))
    (sSeq (sFor (mSeq 2 (mVar 1)) (tName 2 3)
    (sSeq (sIf (mOr (mNot (mTru (mIs "tuple" (mVar 3)))) (mOr (mB (mOp2 gEq (mVar 3) (mTup 2 mNil))) (mB (mOp2 gNe (mCB gList (mCons (mVar 3) mNil)) (mCB gSorted (mCons (mVar 3) mNil))))))
    (sRet 2 (mK (.bool false)))
    sNext)
    (sSet 2 2 (mOp2 gAdd (mVar 2) (mVar 3)))))
    (sSeq (sSet 2 4 (mLc 2 [5, 6] (mZip 2 (mVar 1) (mSlice (mVar 1) (mPart (mK (.int 1))) mNoPart)) (tTuple 2 (tsCons (tName 2 5) (tsCons (tName 2 6) tsNil))) (mB (mOp2 gLt (mOp2 gIx (mVar 5) (mOp1 gNeg (mK (.int 1)))) (mOp2 gIx (mVar 6) (mK (.int 0))))) (mK (.int 1))))
    (sRet 2 (mAndV (mOp2 gEq (mVar 2) (mVar 0)) (mOp2 gEq (mVar 4) (mLst 2 mNil)))))))
def f__law_runs_right : Fn := fnOf [false, false] 7 m__law_runs_right
def m__law_is_action : MS := (sSeq (sIf (mOr (mNot (mTru (mIs "tuple" (mVar 1)))) (mOr (mB (mOp2 gNe (mCB gLen (mCons (mVar 1) mNil)) (mK (.int 2)))) (mB (mOp2 gNotIn (mOp2 gIx (mVar 1) (mK (.int 0))) (mLst 2 (mCons (mK (.str "add")) (mCons (mK (.str "remove")) mNil)))))))
    (sRet 2 (mK (.bool false)))
    sNext)
    (sSeq (sIf (mOr (mNot (mTru (mIs "tuple" (mOp2 gIx (mVar 1) (mK (.int 1)))))) (mB (mOp2 gEq (mOp2 gIx (mVar 1) (mK (.int 1))) (mTup 2 mNil))))
    (sRet 2 (mK (.bool false)))
    sNext)
    (sSeq (sFor (mSeq 2 (mOp2 gIx (mVar 1) (mK (.int 1)))) (tName 2 2)
    (sIf (mOr (mNot (mTru (mIs "int" (mVar 2)))) (mOr (mTru (mIs "bool" (mVar 2))) (mNot (mB (mChain gLe gLe (mK (.int 1)) (mVar 2) (mVar 0))))))
    (sRet 2 (mK (.bool false)))
    sNext))
    (sRet 2 (mOp2 gEq (mCB gList (mCons (mOp2 gIx (mVar 1) (mK (.int 1))) mNil)) (mSetI (fun ns => .tmp (.ol ((sortI (dedupI ns)).map .int))) (mOp2 gIx (mVar 1) (mK (.int 1)))))))))
def f__law_is_action : Fn := fnOf [false, false] 3 m__law_is_action
def m_law_k02 : MS := (sSeq (sFor (mRng1 (mOp2 gAdd (mCB gMin (mCons (mCB gLen (mCons (mVar 0) mNil)) (mCons (mK (.int 8)) mNil))) (mK (.int 2)))) (tName 1 1)
    (sSeq (sSet 1 2 (mCall 1 [false, false] TL.f__law_bag (mCons (mVar 0) (mCons (mVar 1) mNil))))
    (sSeq (sSet 1 3 (mCall 1 [true, false] TL.f__law_state (mCons (mVar 2) (mCons (mK (.int 16)) mNil))))
    (sSeq (sUnp 1 (tTuple 2 (tsCons (tName 1 4) (tsCons (tName 1 5) tsNil))) (mVar 3))
    (sSeq (sPar 1 [6, 7] (mCons (mCall 1 [false] TL.f_left (mCons (mVar 3) mNil)) (mCons (mLc 1 [14] (mRng2 (mK (.int 1)) (mOp2 gAdd (mVar 4) (mK (.int 1)))) (tName 1 14) (mB (mOp2 gNotIn (mVar 14) (mVar 5))) (mVar 14)) mNil)))
    (sSeq (sIf (mOr (mB (mOp2 gNe (mVar 6) (mVar 7))) (mNot (mTru (mCall 1 [false, false] TL.f__law_runs_right (mCons (mVar 5) (mCons (mCall 1 [false] TL.f_runs (mCons (mVar 3) mNil)) mNil))))))
    (sRet 1 (mK (.bool false)))
    sNext)
    (sSeq (sDrop (mAppend 1 6 (mK (.int 0))))
    (sSeq (sSet 1 8 (mCall 1 [false] TL.f_runs (mCons (mVar 3) mNil)))
    (sSeq (sDrop (mAppend 1 8 (mTup 1 mNil)))
    (sSeq (sIf (mOr (mB (mOp2 gNe (mCall 1 [false] TL.f_left (mCons (mVar 3) mNil)) (mVar 7))) (mNot (mTru (mCall 1 [false, false] TL.f__law_runs_right (mCons (mVar 5) (mCons (mCall 1 [false] TL.f_runs (mCons (mVar 3) mNil)) mNil))))))
    (sRet 1 (mK (.bool false)))
    sNext)
    (sSeq (sSet 1 9 (mCB gTuple (mCons (mLc 1 [15] (mRng1 (mCall 1 [true, false] TL.f__law_take (mCons (mVar 2) (mCons (mK (.int 5)) mNil)))) (tName 1 15) mYes (mCall 1 [true, false] TL.f__law_step (mCons (mVar 2) (mCons (mVar 4) mNil)))) mNil)))
    (sSeq (sSet 1 10 (mLst 1 (mCons (mTup 1 (mCons (mK (.str "add")) (mCons (mTup 1 mNil) mNil))) (mCons (mTup 1 (mCons (mK (.str "add")) (mCons (mTup 1 (mCons (mK (.int 2)) (mCons (mK (.int 1)) mNil))) mNil))) (mCons (mTup 1 (mCons (mK (.str "add")) (mCons (mTup 1 (mCons (mK (.int 1)) (mCons (mK (.int 1)) mNil))) mNil))) (mCons (mTup 1 (mCons (mK (.str "add")) (mCons (mTup 1 (mCons (mK (.int 0)) mNil)) mNil))) (mCons (mTup 1 (mCons (mK (.str "add")) (mCons (mTup 1 (mCons (mOp2 gAdd (mVar 4) (mK (.int 1))) mNil)) mNil))) (mCons (mTup 1 (mCons (mK (.str "Add")) (mCons (mTup 1 (mCons (mK (.int 1)) mNil)) mNil))) mNil))))))))
    (sSeq (sSet 1 10 (mOp2 gAdd (mVar 10) (mLst 1 (mCons (mTup 1 (mCons (mK (.str "add")) (mCons (mLst 1 (mCons (mK (.int 1)) mNil)) mNil))) (mCons (mLst 1 (mCons (mK (.str "add")) (mCons (mTup 1 (mCons (mK (.int 1)) mNil)) mNil))) (mCons (mTup 1 (mCons (mK (.str "add")) (mCons (mTup 1 (mCons (mK (.bool true)) mNil)) mNil))) (mCons (mTup 1 (mCons (mK (.str "add")) (mCons (mK (.int 1)) mNil))) (mCons (mTup 1 (mCons (mK (.str "remove")) (mCons (mTup 1 (mCons (mK (.int 1)) mNil)) (mCons (mK (.int 1)) mNil)))) (mCons (mTup 1 mNil) (mCons (mK .none) (mCons (mK (.str "add")) mNil)))))))))))
    (sSeq (sFor (mSeq 1 (mOp2 gAdd (mVar 10) (mLst 1 (mCons (mCall 1 [true, false] TL.f__law_step (mCons (mVar 2) (mCons (mVar 4) mNil))) (mCons (mTup 1 (mCons (mK (.str "remove")) (mCons (mTup 1 (mCons (mK (.int 1)) mNil)) mNil))) mNil))))) (tName 1 11)
    (sSeq (sSet 1 12 (mCall 1 [true, false] TL.f__law_take (mCons (mVar 2) (mCons (mOp2 gAdd (mCB gLen (mCons (mVar 9) mNil)) (mK (.int 1))) mNil))))
    (sSeq (sSet 1 13 (mOp2 gAdd (mOp2 gAdd (mSlice (mVar 9) mNoPart (mPart (mVar 12))) (mTup 1 (mCons (mVar 11) mNil))) (mSlice (mVar 9) (mPart (mVar 12)) mNoPart)))
    (sSeq (sIf (mAnd (mB (mOp2 gIsNotB (mCall 1 [false, false] TL.f_is_script (mCons (mVar 4) (mCons (mVar 13) mNil))) (mK (.bool true)))) (mTru (mCall 1 [false, false] TL.f__law_is_action (mCons (mVar 4) (mCons (mVar 11) mNil)))))
    (sRet 1 (mK (.bool false)))
    sNext)
    (sIf (mAnd (mB (mOp2 gIsNotB (mCall 1 [false, false] TL.f_is_script (mCons (mVar 4) (mCons (mVar 13) mNil))) (mK (.bool false)))) (mNot (mTru (mCall 1 [false, false] TL.f__law_is_action (mCons (mVar 4) (mCons (mVar 11) mNil))))))
    (sRet 1 (mK (.bool false)))
    sNext)))))
    (sSeq (sIf (mB (mOp2 gNe (mLc 1 [13] (mSeq 1 (mLst 1 (mCons (mK .none) (mCons (mLst 1 mNil) (mCons (mCB gList (mCons (mVar 9) mNil)) (mCons (mK (.str "add")) (mCons (mK (.int 3)) mNil))))))) (tName 1 13) (mB (mOp2 gIsNotB (mCall 1 [false, false] TL.f_is_script (mCons (mVar 4) (mCons (mVar 13) mNil))) (mK (.bool false)))) (mVar 13)) (mLst 1 mNil)))
    (sRet 1 (mK (.bool false)))
    sNext)
    (sIf (mOr (mNot (mTru (mCall 1 [false, false] TL.f_is_script (mCons (mVar 4) (mCons (mOp2 gMul (mTup 1 (mCons (mTup 1 (mCons (mK (.str "add")) (mCons (mTup 1 (mCons (mK (.int 1)) mNil)) mNil))) mNil)) (mK (.int 40))) mNil))))) (mTru (mCall 1 [false, false] TL.f_is_script (mCons (mVar 4) (mCons (mOp2 gMul (mTup 1 (mCons (mTup 1 (mCons (mK (.str "add")) (mCons (mTup 1 (mCons (mK (.int 1)) mNil)) mNil))) mNil)) (mK (.int 41))) mNil)))))
    (sRet 1 (mK (.bool false)))
    sNext))))))))))))))))
    (sRet 1 (mAndV (mOp2 gEq (mCall 1 [false] TL.f_runs (mCons (mTup 1 (mCons (mK (.int 5)) (mCons (mTup 1 (mCons (mK (.int 2)) (mCons (mK (.int 1)) (mCons (mK (.int 4)) (mCons (mK (.int 3)) mNil))))) mNil))) mNil)) (mLst 1 (mCons (mTup 1 (mCons (mK (.int 2)) mNil)) (mCons (mTup 1 (mCons (mK (.int 1)) (mCons (mK (.int 4)) mNil))) (mCons (mTup 1 (mCons (mK (.int 3)) mNil)) mNil))))) (mAndV (mOp2 gEq (mCall 1 [false] TL.f_runs (mCons (mTup 1 (mCons (mK (.int 2)) (mCons (mTup 1 mNil) mNil))) mNil)) (mLst 1 mNil)) (mOp2 gEq (mCall 1 [false] TL.f_left (mCons (mTup 1 (mCons (mK (.int 2)) (mCons (mTup 1 (mCons (mK (.int 2)) (mCons (mK (.int 1)) mNil))) mNil))) mNil)) (mLst 1 mNil))))))
def f_law_k02 : Fn := fnOf [false] 16 m_law_k02
def m__law_after : MS := (sSeq (sSet 2 2 (mCB gList (mCons (mVar 0) mNil)))
    (sSeq (sFor (mSeq 2 (mOp2 gIx (mVar 1) (mK (.int 1)))) (tName 2 3)
    (sSeq (sIf (mAnd (mB (mOp2 gEq (mOp2 gIx (mVar 1) (mK (.int 0))) (mK (.str "add")))) (mB (mOp2 gNotIn (mVar 3) (mVar 2))))
    (sDrop (mAppend 2 2 (mVar 3)))
    sNext)
    (sIf (mAnd (mB (mOp2 gEq (mOp2 gIx (mVar 1) (mK (.int 0))) (mK (.str "remove")))) (mB (mOp2 gIn (mVar 3) (mVar 2))))
    (sDrop (mRemove 2 (mVar 3)))
    sNext)))
    (sRet 2 (mCB gTuple (mCons (mVar 2) mNil)))))
def f__law_after : Fn := fnOf [false, false] 4 m__law_after
def m__law_last : MS := (sSeq (sFor (mSeq 2 (mVar 1)) (tName 2 2)
    (sSet 2 0 (mCall 2 [false, false] TL.f__law_after (mCons (mVar 0) (mCons (mVar 2) mNil)))))
    (sRet 2 (mVar 0)))
def f__law_last : Fn := fnOf [false, false] 3 m__law_last
def q_script_to_1 : MS := (sSetI 2 2 (mCall 2 [false, false] TL.f_kept_of (mCons (mVar 0) (mCons (mVar 1) mNil))))
def q_script_to_2 : MS := (sSetI 2 3 (mTup 2 mNil))
def q_script_to_3 : MS := (sSetI 2 3 (mTup 2 (mCons (mTup 2 (mCons (mK (.str "remove")) (mCons (mCB gTuple (mCons (mCB gSorted (mCons (mLc 2 [5] (mSeq 2 (mVar 0)) (tName 2 5) (mB (mOp2 gNotIn (mVar 5) (mVar 2))) (mVar 5)) mNil)) mNil)) mNil))) mNil)))
def q_script_to_4 : MS := (sIf (mB (mOp2 gNe (mVar 2) (mVar 0)))
    TL.q_script_to_3
    sNext)
def q_script_to_5 : MS := (sRet 2 (mOp2 gAdd (mVar 3) (mCB gTuple (mCons (mLc 2 [4] (mSeq 2 (mCall 2 [false] TL.f_runs_of (mCons (mSlice (mVar 1) (mPart (mCB gLen (mCons (mVar 2) mNil))) mNoPart) mNil))) (tName 2 4) mYes (mTup 2 (mCons (mK (.str "add")) (mCons (mVar 4) mNil)))) mNil))))
def b_script_to_6 : MS := (sSeq TL.q_script_to_1
    (sSeq TL.q_script_to_2
    (sSeq TL.q_script_to_4
    TL.q_script_to_5)))
def m_script_to : MS := TL.b_script_to_6
def f_script_to : Fn := fnOf [false, false] 6 m_script_to
def q_shortest_1 : MS := (sDrop (mCall 2 [false, false] TL.f_require_both (mCons (mVar 0) (mCons (mVar 1) mNil))))
def q_shortest_2 : MS := (sRet 2 (mCall 2 [false, false] TL.f_script_to (mCons (mOp2 gIx (mVar 0) (mK (.int 1))) (mCons (mOp2 gIx (mVar 1) (mK (.int 1))) mNil))))
def b_shortest_3 : MS := (sSeq TL.q_shortest_1
    TL.q_shortest_2)
def m_shortest : MS := TL.b_shortest_3
def f_shortest : Fn := fnOf [false, false] 2 m_shortest
def q_require_prices_1 : MS := (sDrop (mCall 4 [false, false] TL.f_require_both (mCons (mVar 0) (mCons (mVar 1) mNil))))
def q_require_prices_2 : MS := (sRaise "InvalidPrice")
def q_require_prices_3 : MS := (sIf (mNot (mTru (mCall 4 [false, false, false] TL.f_is_integer (mCons (mVar 2) (mCons (mK (.int 0)) (mCons (mK (.int 1000)) mNil))))))
    TL.q_require_prices_2
    sNext)
def q_require_prices_4 : MS := (sRaise "InvalidPrice")
def q_require_prices_5 : MS := (sIf (mNot (mTru (mCall 4 [false, false, false] TL.f_is_integer (mCons (mVar 3) (mCons (mK (.int 0)) (mCons (mK (.int 1000)) mNil))))))
    TL.q_require_prices_4
    sNext)
def b_require_prices_6 : MS := (sSeq TL.q_require_prices_1
    (sSeq TL.q_require_prices_3
    TL.q_require_prices_5))
def m_require_prices : MS := TL.b_require_prices_6
def f_require_prices : Fn := fnOf [false, false, false, false] 4 m_require_prices
def q_least_price_1 : MS := (sDrop (mCall 4 [false, false, false, false] TL.f_require_prices (mCons (mVar 0) (mCons (mVar 1) (mCons (mVar 2) (mCons (mVar 3) mNil))))))
def q_least_price_2 : MS := (sSetI 4 4 (mCall 4 [false, false] TL.f_script_to (mCons (mOp2 gIx (mVar 0) (mK (.int 1))) (mCons (mOp2 gIx (mVar 1) (mK (.int 1))) mNil))))
def q_least_price_3 : MS := (sRet 4 (mOp2 gAdd (mOp2 gMul (mVar 2) (mCB gLen (mCons (mVar 4) mNil))) (mOp2 gMul (mVar 3) (mCB gSum (mCons (mLc 4 [5] (mSeq 4 (mVar 4)) (tName 4 5) mYes (mCB gLen (mCons (mOp2 gIx (mVar 5) (mK (.int 1))) mNil))) mNil)))))
def b_least_price_4 : MS := (sSeq TL.q_least_price_1
    (sSeq TL.q_least_price_2
    TL.q_least_price_3))
def m_least_price : MS := TL.b_least_price_4
def f_least_price : Fn := fnOf [false, false, false, false] 6 m_least_price
def q_cheapest_1 : MS := (sDrop (mCall 4 [false, false, false, false] TL.f_require_prices (mCons (mVar 0) (mCons (mVar 1) (mCons (mVar 2) (mCons (mVar 3) mNil))))))
def q_cheapest_2 : MS := (sRet 4 (mCall 4 [false, false] TL.f_script_to (mCons (mOp2 gIx (mVar 0) (mK (.int 1))) (mCons (mOp2 gIx (mVar 1) (mK (.int 1))) mNil))))
def b_cheapest_3 : MS := (sSeq TL.q_cheapest_1
    TL.q_cheapest_2)
def m_cheapest : MS := TL.b_cheapest_3
def f_cheapest : Fn := fnOf [false, false, false, false] 4 m_cheapest
def q_sets_of_1 : MS := (sSet 1 1 (mK (.int 1)))
def q_sets_of_2 : MS := (sAug 1 1 gIMul (mK (.int 2)))
def q_sets_of_3 : MS := (sFor (mRng1 (mVar 0)) (tName 1 2)
    TL.q_sets_of_2)
def q_sets_of_4 : MS := (sRet 1 (mVar 1))
def b_sets_of_5 : MS := (sSeq TL.q_sets_of_1
    (sSeq TL.q_sets_of_3
    TL.q_sets_of_4))
def m_sets_of : MS := TL.b_sets_of_5
def f_sets_of : Fn := fnOf [false] 3 m_sets_of
def q_count_operations_1 : MS := (sDrop (mCall 2 [false, false] TL.f_require_both (mCons (mVar 0) (mCons (mVar 1) mNil))))
def q_count_operations_2 : MS := (sSetI 2 2 (mCB gLen (mCons (mOp2 gIx (mVar 0) (mK (.int 1))) mNil)))
def q_count_operations_3 : MS := (sRet 2 (mOp2 gSub (mOp2 gAdd (mOp2 gSub (mCall 2 [false] TL.f_sets_of (mCons (mVar 2) mNil)) (mK (.int 1))) (mCall 2 [false] TL.f_sets_of (mCons (mOp2 gSub (mOp2 gIx (mVar 0) (mK (.int 0))) (mVar 2)) mNil))) (mK (.int 1))))
def q_count_operations_4 : MS := (sIf (mB (mOp2 gEq (mOp2 gIx (mVar 0) (mK (.int 1))) (mOp2 gIx (mVar 1) (mK (.int 1)))))
    TL.q_count_operations_3
    sNext)
def q_count_operations_5 : MS := (sSetI 2 3 (mCall 2 [false, false] TL.f_smallest (mCons (mOp2 gIx (mVar 0) (mK (.int 1))) (mCons (mOp2 gIx (mVar 1) (mK (.int 1))) mNil))))
def q_count_operations_6 : MS := (sRet 2 (mK (.int 0)))
def q_count_operations_7 : MS := (sIf (mB (mOp2 gIs (mVar 3) (mK .none)))
    TL.q_count_operations_6
    sNext)
def q_count_operations_8 : MS := (sRet 2 (mCall 2 [false] TL.f_sets_of (mCons (mIf (mB (mOp2 gEq (mOp2 gIx (mVar 3) (mK (.int 0))) (mK (.str "add")))) (mVar 2) (mOp2 gSub (mOp2 gIx (mVar 0) (mK (.int 0))) (mVar 2))) mNil)))
def b_count_operations_9 : MS := (sSeq TL.q_count_operations_1
    (sSeq TL.q_count_operations_2
    (sSeq TL.q_count_operations_4
    (sSeq TL.q_count_operations_5
    (sSeq TL.q_count_operations_7
    TL.q_count_operations_8)))))
def m_count_operations : MS := TL.b_count_operations_9
def f_count_operations : Fn := fnOf [false, false] 4 m_count_operations
def q_all_operations_1 : MS := (sSet 1 1 (mLst 1 (mCons (mTup 1 mNil) mNil)))
def q_all_operations_2 : MS := (sExt 1 (mLcV 1 [3] 1 (tName 1 3) mYes (mOp2 gAdd (mVar 3) (mTup 1 (mCons (mVar 2) mNil)))))
def q_all_operations_3 : MS := (sFor (mRng2 (mK (.int 1)) (mOp2 gAdd (mVar 0) (mK (.int 1)))) (tName 1 2)
    TL.q_all_operations_2)
def q_all_operations_4 : MS := (sRet 1 (mCB gSortedG (mCons (mLc2 1 [4, 3] [3] (mSeq 1 (mTup 1 (mCons (mK (.str "add")) (mCons (mK (.str "remove")) mNil)))) (tName 1 4) mYes (mSeq 1 (mVar 1)) (tName 1 3) (mTru (mVar 3)) (mTup 1 (mCons (mVar 4) (mCons (mVar 3) mNil)))) mNil)))
def b_all_operations_5 : MS := (sSeq TL.q_all_operations_1
    (sSeq TL.q_all_operations_3
    TL.q_all_operations_4))
def m_all_operations : MS := TL.b_all_operations_5
def f_all_operations : Fn := fnOf [false] 5 m_all_operations
def q_missing_k04_1 : MS := (sDrop (mCall 4 [false] TL.f_require_state (mCons (mVar 0) mNil)))
def q_missing_k04_2 : MS := (sDrop (mCall 4 [false, false, false] TL.f_require_script (mCons (mOp2 gIx (mVar 0) (mK (.int 0))) (mCons (mVar 1) (mCons (mOp2 gSub (mK (.int 40)) (mK (.int 1))) mNil)))))
def q_missing_k04_3 : MS := (sRaise "InvalidIndex")
def q_missing_k04_4 : MS := (sIf (mNot (mTru (mCall 4 [false, false, false] TL.f_is_integer (mCons (mVar 2) (mCons (mK (.int 0)) (mCons (mCB gLen (mCons (mVar 1) mNil)) mNil))))))
    TL.q_missing_k04_3
    sNext)
def q_missing_k04_5 : MS := (sRaise "InvalidState")
def q_missing_k04_6 : MS := (sIf (mOr (mNot (mTru (mCall 4 [false] TL.f_is_state (mCons (mVar 3) mNil)))) (mB (mOp2 gNe (mOp2 gIx (mVar 3) (mK (.int 0))) (mOp2 gIx (mVar 0) (mK (.int 0))))))
    TL.q_missing_k04_5
    sNext)
def q_missing_k04_7 : MS := (sRaise "TooLarge")
def q_missing_k04_8 : MS := (sIf (mB (mOp2 gGt (mOp2 gIx (mVar 0) (mK (.int 0))) (mK (.int 6))))
    TL.q_missing_k04_7
    sNext)
def q_missing_k04_9 : MS := (sPar 4 [4, 5] (mCons (mCall 4 [false, false] TL.f_last_of (mCons (mOp2 gIx (mVar 0) (mK (.int 1))) (mCons (mSlice (mVar 1) mNoPart (mPart (mVar 2))) mNil))) (mCons (mLst 4 mNil) mNil)))
def q_missing_k04_10 : MS := (sDrop (mAppend 4 5 (mVar 6)))
def q_missing_k04_11 : MS := (sIf (mB (mOp2 gEq (mCall 4 [false, false] TL.f_last_of (mCons (mCall 4 [false, false] TL.f_after (mCons (mVar 4) (mCons (mVar 6) mNil))) (mCons (mSlice (mVar 1) (mPart (mVar 2)) mNoPart) mNil))) (mOp2 gIx (mVar 3) (mK (.int 1)))))
    TL.q_missing_k04_10
    sNext)
def q_missing_k04_12 : MS := (sFor (mSeq 4 (mCall 4 [false] TL.f_all_operations (mCons (mOp2 gIx (mVar 0) (mK (.int 0))) mNil))) (tName 4 6)
    TL.q_missing_k04_11)
def q_missing_k04_13 : MS := (sRet 4 (mVar 5))
def b_missing_k04_14 : MS := (sSeq TL.q_missing_k04_1
    (sSeq TL.q_missing_k04_2
    (sSeq TL.q_missing_k04_4
    (sSeq TL.q_missing_k04_6
    (sSeq TL.q_missing_k04_8
    (sSeq TL.q_missing_k04_9
    (sSeq TL.q_missing_k04_12
    TL.q_missing_k04_13)))))))
def m_missing_k04 : MS := TL.b_missing_k04_14
def f_missing_k04 : Fn := fnOf [false, false, false, false] 7 m_missing_k04
def m_short_lists : MS := (sSeq (sSet 1 1 (mRgL rfL (mK (.int 1)) (mOp2 gAdd (mVar 0) (mK (.int 1)))))
    (sSeq (sSet 1 2 (mOp2 gAdd (mLst 1 (mCons (mTup 1 mNil) mNil)) (mLc 1 [3] (mSeq 1 (mVar 1)) (tName 1 3) mYes (mTup 1 (mCons (mVar 3) mNil)))))
    (sRet 1 (mOp2 gAdd (mVar 2) (mLc2 1 [4, 5] [5] (mSeq 1 (mVar 1)) (tName 1 4) mYes (mSeq 1 (mVar 1)) (tName 1 5) (mB (mOp2 gNe (mVar 4) (mVar 5))) (mTup 1 (mCons (mVar 4) (mCons (mVar 5) mNil))))))))
def f_short_lists : Fn := fnOf [false] 6 m_short_lists
def m_first_difference : MS := (sSeq (sFor (mSeq 3 (mCall 3 [false] TL.f_short_lists (mCons (mVar 0) mNil))) (tName 3 3)
    (sIf (mB (mOp2 gNe (mCall 3 [false, false] TL.f_last_of (mCons (mVar 3) (mCons (mVar 1) mNil))) (mCall 3 [false, false] TL.f_last_of (mCons (mVar 3) (mCons (mVar 2) mNil)))))
    (sRet 3 (mVar 3))
    sNext))
    (sRet 3 (mK .none)))
def f_first_difference : Fn := fnOf [false, false, false] 4 m_first_difference
def m_difference : MS := (sSeq (sDrop (mCall 3 [false] TL.f_require_size (mCons (mVar 0) mNil)))
    (sSeq (sDrop (mCall 3 [false, false, false] TL.f_require_script (mCons (mVar 0) (mCons (mVar 1) (mCons (mK (.int 40)) mNil)))))
    (sSeq (sDrop (mCall 3 [false, false, false] TL.f_require_script (mCons (mVar 0) (mCons (mVar 2) (mCons (mK (.int 40)) mNil)))))
    (sRet 3 (mCall 3 [false, false, false] TL.f_first_difference (mCons (mVar 0) (mCons (mVar 1) (mCons (mVar 2) mNil))))))))
def f_difference : Fn := fnOf [false, false, false] 3 m_difference
def m_needless : MS := (sSeq (sDrop (mCall 2 [false] TL.f_require_size (mCons (mVar 0) mNil)))
    (sSeq (sDrop (mCall 2 [false, false, false] TL.f_require_script (mCons (mVar 0) (mCons (mVar 1) (mCons (mK (.int 40)) mNil)))))
    (sSeq (sSet 2 2 (mLst 2 mNil))
    (sSeq (sFor (mRng1 (mCB gLen (mCons (mVar 1) mNil))) (tName 2 3)
    (sIf (mB (mOp2 gIs (mCall 2 [false, false, false] TL.f_first_difference (mCons (mVar 0) (mCons (mOp2 gAdd (mSlice (mVar 1) mNoPart (mPart (mVar 3))) (mSlice (mVar 1) (mPart (mOp2 gAdd (mVar 3) (mK (.int 1)))) mNoPart)) (mCons (mVar 1) mNil)))) (mK .none)))
    (sDrop (mAppend 2 2 (mVar 3)))
    sNext))
    (sRet 2 (mVar 2))))))
def f_needless : Fn := fnOf [false, false] 4 m_needless
def m_commute : MS := (sSeq (sDrop (mCall 3 [false] TL.f_require_size (mCons (mVar 0) mNil)))
    (sSeq (sFor (mSeq 3 (mTup 3 (mCons (mVar 1) (mCons (mVar 2) mNil)))) (tName 3 3)
    (sIf (mNot (mTru (mCall 3 [false, false] TL.f_is_operation (mCons (mVar 0) (mCons (mVar 3) mNil)))))
    (sRaise "InvalidOperation")
    sNext))
    (sRet 3 (mOp2 gIs (mCall 3 [false, false, false] TL.f_first_difference (mCons (mVar 0) (mCons (mTup 3 (mCons (mVar 1) (mCons (mVar 2) mNil))) (mCons (mTup 3 (mCons (mVar 2) (mCons (mVar 1) mNil))) mNil)))) (mK .none)))))
def f_commute : Fn := fnOf [false, false, false] 4 m_commute
def q_count_at_k04_1 : MS := (sDrop (mCall 2 [false] TL.f_require_state (mCons (mVar 0) mNil)))
def q_count_at_k04_2 : MS := (sDrop (mCall 2 [false] TL.f_require_number (mCons (mVar 1) mNil)))
def q_count_at_k04_3 : MS := (sRaise "TooLarge")
def q_count_at_k04_4 : MS := (sIf (mB (mOp2 gGt (mOp2 gIx (mVar 0) (mK (.int 0))) (mK (.int 5))))
    TL.q_count_at_k04_3
    sNext)
def q_count_at_k04_5 : MS := (sRet 2 (mCB gLen (mCons (mLc 2 [2] (mSeq 2 (mCall 2 [false] TL.f_all_lists (mCons (mOp2 gIx (mVar 0) (mK (.int 0))) mNil))) (tName 2 2) (mB (mOp2 gEq (mCall 2 [false, false] TL.f_away (mCons (mOp2 gIx (mVar 0) (mK (.int 1))) (mCons (mVar 2) mNil))) (mVar 1))) (mVar 2)) mNil)))
def b_count_at_k04_6 : MS := (sSeq TL.q_count_at_k04_1
    (sSeq TL.q_count_at_k04_2
    (sSeq TL.q_count_at_k04_4
    TL.q_count_at_k04_5)))
def m_count_at_k04 : MS := TL.b_count_at_k04_6
def f_count_at_k04 : Fn := fnOf [false, false] 3 m_count_at_k04
def q_kept_for_1 : MS := (sDrop (mCall 2 [false] TL.f_require_state (mCons (mVar 0) mNil)))
def q_kept_for_2 : MS := (sDrop (mCall 2 [false, false] TL.f_require_wish (mCons (mOp2 gIx (mVar 0) (mK (.int 0))) (mCons (mVar 1) mNil))))
def q_kept_for_3 : MS := (sRet 2 (mCall 2 [false, false] TL.f_kept_from (mCons (mOp2 gIx (mVar 0) (mK (.int 1))) (mCons (mVar 1) mNil))))
def b_kept_for_4 : MS := (sSeq TL.q_kept_for_1
    (sSeq TL.q_kept_for_2
    TL.q_kept_for_3))
def m_kept_for : MS := TL.b_kept_for_4
def f_kept_for : Fn := fnOf [false, false] 2 m_kept_for
def q__law_words_1 : MS := (sSetI 1 1 (mLst 1 (mCons (mK (.str "state")) (mCons (mK (.str "state")) mNil))))
def q__law_words_2 : MS := (sSetI 1 2 (mOp2 gAdd (mLst 1 (mCons (mLst 1 (mCons (mK (.str "size")) mNil)) (mCons (mLst 1 (mCons (mK (.str "state")) (mCons (mK (.str "script")) mNil))) (mCons (mVar 1) (mCons (mVar 1) (mCons (mVar 1) (mCons (mVar 1) (mCons (mVar 1) (mCons (mLst 1 (mCons (mK (.str "size")) (mCons (mK (.str "wish")) mNil))) mNil))))))))) (mOp2 gMul (mLst 1 (mCons (mLst 1 (mCons (mK (.str "state")) (mCons (mK (.str "wish")) mNil))) mNil)) (mK (.int 4)))))
def q__law_words_3 : MS := (sSetI 1 2 (mOp2 gAdd (mVar 2) (mLst 1 (mCons (mLst 1 (mCons (mK (.str "state")) (mCons (mK (.str "number")) mNil))) (mCons (mLst 1 (mCons (mK (.str "size")) (mCons (mK (.str "script")) mNil))) (mCons (mLst 1 (mCons (mK (.str "size")) (mCons (mK (.str "number")) (mCons (mK (.str "number")) mNil)))) mNil))))))
def q__law_words_4 : MS := (sSetI 1 2 (mOp2 gAdd (mVar 2) (mLst 1 (mCons (mLst 1 (mCons (mK (.str "size")) (mCons (mK (.str "operation")) (mCons (mK (.str "operation")) mNil)))) (mCons (mLst 1 (mCons (mK (.str "size")) (mCons (mK (.str "script")) (mCons (mK (.str "script")) mNil)))) mNil)))))
def q__law_words_5 : MS := (sSetI 1 2 (mOp2 gAdd (mOp2 gAdd (mVar 2) (mLst 1 (mCons (mLst 1 (mCons (mK (.str "size")) (mCons (mK (.str "number")) (mCons (mK (.str "number")) (mCons (mK (.str "place")) mNil))))) mNil))) (mOp2 gMul (mLst 1 (mCons (mLst 1 (mCons (mK (.str "state")) (mCons (mK (.str "state")) (mCons (mK (.str "price")) (mCons (mK (.str "price")) mNil))))) mNil)) (mK (.int 2)))))
def q__law_words_6 : MS := (sRet 1 (mOp2 gIx (mOp2 gAdd (mVar 2) (mLst 1 (mCons (mLst 1 (mCons (mK (.str "state")) (mCons (mK (.str "script")) (mCons (mK (.str "index")) (mCons (mK (.str "state")) mNil))))) mNil))) (mVar 0)))
def b__law_words_7 : MS := (sSeq TL.q__law_words_1
    (sSeq TL.q__law_words_2
    (sSeq TL.q__law_words_3
    (sSeq TL.q__law_words_4
    (sSeq TL.q__law_words_5
    TL.q__law_words_6)))))
def m__law_words : MS := TL.b__law_words_7
def f__law_words : Fn := fnOf [false] 3 m__law_words
def m__law_all : MS := (sSeq (sPar 1 [1, 2] (mCons (mLst 1 (mCons (mTup 1 mNil) mNil)) (mCons (mLst 1 (mCons (mTup 1 mNil) mNil)) mNil)))
    (sSeq (sFor (mRng1 (mVar 0)) (tName 1 3)
    (sSeq (sSet 1 4 (mLst 1 mNil))
    (sSeq (sFor (mSeq 1 (mVar 2)) (tName 1 5)
    (sSet 1 4 (mOp2 gAdd (mVar 4) (mLc 1 [6] (mRng2 (mK (.int 1)) (mOp2 gAdd (mVar 0) (mK (.int 1)))) (tName 1 6) (mB (mOp2 gNotIn (mVar 6) (mVar 5))) (mOp2 gAdd (mVar 5) (mTup 1 (mCons (mVar 6) mNil)))))))
    (sPar 1 [1, 2] (mCons (mOp2 gAdd (mVar 1) (mVar 4)) (mCons (mVar 4) mNil))))))
    (sRet 1 (mVar 1))))
def f__law_all : Fn := fnOf [false] 7 m__law_all
def q__law_actions_1 : MS := (sSetI 1 1 (mLst 1 (mCons (mTup 1 mNil) mNil)))
def q__law_actions_2 : MS := (sSetI 1 1 (mOp2 gAdd (mVar 1) (mLc 1 [4] (mSeq 1 (mVar 1)) (tName 1 4) mYes (mOp2 gAdd (mVar 4) (mTup 1 (mCons (mVar 2) mNil))))))
def q__law_actions_3 : MS := (sFor (mRng2 (mK (.int 1)) (mOp2 gAdd (mVar 0) (mK (.int 1)))) (tName 1 2)
    TL.q__law_actions_2)
def q__law_actions_4 : MS := (sSetI 1 3 (mCB gSortedG (mCons (mLc 1 [4] (mSeq 1 (mVar 1)) (tName 1 4) (mB (mOp2 gNe (mVar 4) (mTup 1 mNil))) (mVar 4)) mNil)))
def q__law_actions_5 : MS := (sRet 1 (mOp2 gAdd (mLc 1 [4] (mSeq 1 (mVar 3)) (tName 1 4) mYes (mTup 1 (mCons (mK (.str "add")) (mCons (mVar 4) mNil)))) (mLc 1 [4] (mSeq 1 (mVar 3)) (tName 1 4) mYes (mTup 1 (mCons (mK (.str "remove")) (mCons (mVar 4) mNil))))))
def b__law_actions_6 : MS := (sSeq TL.q__law_actions_1
    (sSeq TL.q__law_actions_3
    (sSeq TL.q__law_actions_4
    TL.q__law_actions_5)))
def m__law_actions : MS := TL.b__law_actions_6
def f__law_actions : Fn := fnOf [false] 5 m__law_actions
def q__law_layers_1 : MS := (sPar 2 [2, 3, 4, 5] (mCons (mDisp1 2 (mVar 1) (mK (.int 0))) (mCons (mLst 2 (mCons (mVar 1) mNil)) (mCons (mK (.int 0)) (mCons (mCall 2 [false] TL.f__law_actions (mCons (mVar 0) mNil)) mNil)))))
def q__law_layers_2 : MS := (sPar 2 [4, 6] (mCons (mOp2 gAdd (mVar 4) (mK (.int 1))) (mCons (mLst 2 mNil) mNil)))
def q__law_layers_3 : MS := (sSetI 2 9 (mCall 2 [false, false] TL.f__law_after (mCons (mVar 7) (mCons (mVar 8) mNil))))
def q__law_layers_4 : MS := (sPutD 2 2 (mVar 9) (mVar 4))
def q__law_layers_5 : MS := (sDrop (mAppend 2 6 (mVar 9)))
def b__law_layers_6 : MS := (sSeq TL.q__law_layers_4
    TL.q__law_layers_5)
def q__law_layers_7 : MS := (sIf (mB (mOp2 gDNotIn (mVar 9) (mVar 2)))
    TL.b__law_layers_6
    sNext)
def b__law_layers_8 : MS := (sSeq TL.q__law_layers_3
    TL.q__law_layers_7)
def q__law_layers_9 : MS := (sFor (mSeq 2 (mVar 5)) (tName 2 8)
    TL.b__law_layers_8)
def q__law_layers_10 : MS := (sFor (mSeq 2 (mVar 3)) (tName 2 7)
    TL.q__law_layers_9)
def q__law_layers_11 : MS := (sSetI 2 3 (mVar 6))
def b__law_layers_12 : MS := (sSeq TL.q__law_layers_2
    (sSeq TL.q__law_layers_10
    TL.q__law_layers_11))
def q__law_layers_13 : MS := (whileS (mB (mOp2 gNe (mVar 3) (mLst 2 mNil)))
    TL.b__law_layers_12 1000)
def q__law_layers_14 : MS := (sRet 2 (mVar 2))
def b__law_layers_15 : MS := (sSeq TL.q__law_layers_1
    (sSeq TL.q__law_layers_13
    TL.q__law_layers_14))
def m__law_layers : MS := TL.b__law_layers_15
def f__law_layers : Fn := fnOf [false, false] 10 m__law_layers
def q_law_k05_1 : MS := (sSet 1 2 (mCall 1 [false, false] TL.f__law_bag (mCons (mVar 0) (mCons (mVar 1) mNil))))
def q_law_k05_2 : MS := (sUnp 1 (tTuple 2 (tsCons (tName 1 3) (tsCons (tName 1 4) tsNil))) (mCall 1 [true, false] TL.f__law_state (mCons (mVar 2) (mCons (mK (.int 4)) mNil))))
def q_law_k05_3 : MS := (sSetI 1 5 (mCall 1 [false, false] TL.f__law_layers (mCons (mVar 3) (mCons (mVar 4) mNil))))
def q_law_k05_4 : MS := (sRet 1 (mK (.bool false)))
def q_law_k05_5 : MS := (sIf (mB (mOp2 gNe (mCall 1 [false, false] TL.f_distance (mCons (mTup 1 (mCons (mVar 3) (mCons (mVar 4) mNil))) (mCons (mTup 1 (mCons (mVar 3) (mCons (mVar 6) mNil))) mNil))) (mOp2 gDIx (mVar 5) (mVar 6))))
    TL.q_law_k05_4
    sNext)
def q_law_k05_6 : MS := (sSetI 1 7 (mCall 1 [false, false] TL.f_shortest (mCons (mTup 1 (mCons (mVar 3) (mCons (mVar 4) mNil))) (mCons (mTup 1 (mCons (mVar 3) (mCons (mVar 6) mNil))) mNil))))
def q_law_k05_7 : MS := (sRet 1 (mK (.bool false)))
def q_law_k05_8 : MS := (sIf (mOr (mNot (mTru (mIs "tuple" (mVar 7)))) (mOr (mB (mOp2 gNe (mCB gLen (mCons (mVar 7) mNil)) (mOp2 gDIx (mVar 5) (mVar 6)))) (mB (mOp2 gNe (mCall 1 [false, false] TL.f__law_last (mCons (mVar 4) (mCons (mVar 7) mNil))) (mVar 6)))))
    TL.q_law_k05_7
    sNext)
def b_law_k05_9 : MS := (sSeq TL.q_law_k05_5
    (sSeq TL.q_law_k05_6
    TL.q_law_k05_8))
def q_law_k05_10 : MS := (sForD 5 (tName 1 6)
    TL.b_law_k05_9)
def b_law_k05_11 : MS := (sSeq TL.q_law_k05_1
    (sSeq TL.q_law_k05_2
    (sSeq TL.q_law_k05_3
    TL.q_law_k05_10)))
def q_law_k05_12 : MS := (sFor (mRng1 (mOp2 gAdd (mCB gMin (mCons (mCB gLen (mCons (mVar 0) mNil)) (mCons (mK (.int 3)) mNil))) (mK (.int 2)))) (tName 1 1)
    TL.b_law_k05_11)
def q_law_k05_13 : MS := (sRet 1 (mAndV (mOp2 gEq (mCall 1 [false, false] TL.f_distance (mCons (mTup 1 (mCons (mK (.int 3)) (mCons (mTup 1 (mCons (mK (.int 1)) (mCons (mK (.int 3)) mNil))) mNil))) (mCons (mTup 1 (mCons (mK (.int 3)) (mCons (mTup 1 (mCons (mK (.int 1)) (mCons (mK (.int 2)) mNil))) mNil))) mNil))) (mK (.int 2))) (mOp2 gEq (mCall 1 [false, false] TL.f_distance (mCons (mTup 1 (mCons (mK (.int 4)) (mCons (mTup 1 mNil) mNil))) (mCons (mTup 1 (mCons (mK (.int 4)) (mCons (mTup 1 (mCons (mK (.int 4)) (mCons (mK (.int 3)) (mCons (mK (.int 2)) (mCons (mK (.int 1)) mNil))))) mNil))) mNil))) (mK (.int 4)))))
def b_law_k05_14 : MS := (sSeq TL.q_law_k05_12
    TL.q_law_k05_13)
def m_law_k05 : MS := TL.b_law_k05_14
def f_law_k05 : Fn := fnOf [false] 8 m_law_k05
def q__law_parts_1 : MS := (sSet 1 1 (mLst 1 mNil))
def q__law_parts_2 : MS := (sSetIx 1 1 (mOp2 gAdd (mOp2 gIx (mVar 1) (mOp1 gNeg (mK (.int 1)))) (mTup 1 (mCons (mVar 3) mNil))) (mOp1 gNeg (mK (.int 1))))
def q__law_parts_3 : MS := (sDrop (mAppend 1 1 (mTup 1 (mCons (mVar 3) mNil))))
def q__law_parts_4 : MS := (sIf (mAnd (mB (mOp2 gGt (mVar 2) (mK (.int 0)))) (mB (mOp2 gLt (mOp2 gIx (mVar 0) (mOp2 gSub (mVar 2) (mK (.int 1)))) (mVar 3))))
    TL.q__law_parts_2
    TL.q__law_parts_3)
def q__law_parts_5 : MS := (sFor (mEnum 1 (mVar 0)) (tTuple 2 (tsCons (tName 1 2) (tsCons (tName 1 3) tsNil)))
    TL.q__law_parts_4)
def q__law_parts_6 : MS := (sRet 1 (mVar 1))
def b__law_parts_7 : MS := (sSeq TL.q__law_parts_1
    (sSeq TL.q__law_parts_5
    TL.q__law_parts_6))
def m__law_parts : MS := TL.b__law_parts_7
def f__law_parts : Fn := fnOf [false] 4 m__law_parts
def q__law_same_1 : MS := (sPar 2 [3, 4] (mCons (mSlice (mVar 1) mNoPart (mPart (mVar 2))) (mCons (mK (.int 0)) mNil)))
def q__law_same_2 : MS := (sSetI 2 4 (mOp2 gAdd (mVar 4) (mK (.int 1))))
def q__law_same_3 : MS := (sIf (mAnd (mB (mOp2 gLt (mVar 4) (mVar 2))) (mB (mOp2 gEq (mOp2 gIx (mVar 3) (mVar 4)) (mVar 5))))
    TL.q__law_same_2
    sNext)
def q__law_same_4 : MS := (sFor (mSeq 2 (mVar 0)) (tName 2 5)
    TL.q__law_same_3)
def q__law_same_5 : MS := (sRet 2 (mVar 3))
def q__law_same_6 : MS := (sIf (mB (mOp2 gEq (mVar 4) (mVar 2)))
    TL.q__law_same_5
    sNext)
def b__law_same_7 : MS := (sSeq TL.q__law_same_1
    (sSeq TL.q__law_same_4
    TL.q__law_same_6))
def q__law_same_8 : MS := (sFor (mRngD (mCB gLen (mCons (mVar 1) mNil)) (mOp1 gNeg (mK (.int 1))) (mOp1 gNeg (mK (.int 1)))) (tName 2 2)
    TL.b__law_same_7)
def q__law_same_9 : MS := (sRet 2 (mTup 2 mNil))
def b__law_same_10 : MS := (sSeq TL.q__law_same_8
    TL.q__law_same_9)
def m__law_same : MS := TL.b__law_same_10
def f__law_same : Fn := fnOf [false, false] 6 m__law_same
def q__law_steps_1 : MS := (sSetI 2 2 (mCall 2 [false, false] TL.f__law_same (mCons (mVar 0) (mCons (mVar 1) mNil))))
def q__law_steps_2 : MS := (sRet 2 (mOp2 gAdd (mCB gLen (mCons (mCall 2 [false] TL.f__law_parts (mCons (mSlice (mVar 1) (mPart (mCB gLen (mCons (mVar 2) mNil))) mNoPart) mNil)) mNil)) (mIf (mB (mOp2 gNe (mVar 2) (mVar 0))) (mK (.int 1)) (mK (.int 0)))))
def b__law_steps_3 : MS := (sSeq TL.q__law_steps_1
    TL.q__law_steps_2)
def m__law_steps : MS := TL.b__law_steps_3
def f__law_steps : Fn := fnOf [false, false] 3 m__law_steps
def q__law_near_1 : MS := (sSetI 3 3 (mCall 3 [true, false] TL.f__law_take (mCons (mVar 0) (mCons (mK (.int 4)) mNil))))
def q__law_near_2 : MS := (sRet 3 (mCall 3 [true, false] TL.f__law_list (mCons (mVar 0) (mCons (mVar 1) mNil))))
def q__law_near_3 : MS := (sIf (mOr (mB (mOp2 gEq (mVar 3) (mK (.int 0)))) (mB (mOp2 gEq (mVar 2) (mTup 3 mNil))))
    TL.q__law_near_2
    sNext)
def q__law_near_4 : MS := (sSetI 3 4 (mCall 3 [true, false] TL.f__law_take (mCons (mVar 0) (mCons (mCB gLen (mCons (mVar 2) mNil)) mNil))))
def q__law_near_5 : MS := (sRet 3 (mOp2 gAdd (mSlice (mVar 2) mNoPart (mPart (mVar 4))) (mSlice (mVar 2) (mPart (mOp2 gAdd (mVar 4) (mK (.int 1)))) mNoPart)))
def q__law_near_6 : MS := (sIf (mB (mOp2 gEq (mVar 3) (mK (.int 1))))
    TL.q__law_near_5
    sNext)
def q__law_near_7 : MS := (sSetI 3 5 (mLc 3 [6] (mRng2 (mK (.int 1)) (mOp2 gAdd (mVar 1) (mK (.int 1)))) (tName 3 6) (mB (mOp2 gNotIn (mVar 6) (mVar 2))) (mVar 6)))
def q__law_near_8 : MS := (sRet 3 (mOp2 gAdd (mOp2 gAdd (mSlice (mVar 2) mNoPart (mPart (mVar 4))) (mTup 3 (mCons (mCall 3 [true, false] TL.f__law_of (mCons (mVar 0) (mCons (mVar 5) mNil))) mNil))) (mSlice (mVar 2) (mPart (mVar 4)) mNoPart)))
def q__law_near_9 : MS := (sIf (mAnd (mB (mOp2 gEq (mVar 3) (mK (.int 2)))) (mB (mOp2 gNe (mVar 5) (mLst 3 mNil))))
    TL.q__law_near_8
    sNext)
def q__law_near_10 : MS := (sRet 3 (mOp2 gAdd (mSlice (mVar 2) (mPart (mVar 4)) mNoPart) (mSlice (mVar 2) mNoPart (mPart (mVar 4)))))
def b__law_near_11 : MS := (sSeq TL.q__law_near_1
    (sSeq TL.q__law_near_3
    (sSeq TL.q__law_near_4
    (sSeq TL.q__law_near_6
    (sSeq TL.q__law_near_7
    (sSeq TL.q__law_near_9
    TL.q__law_near_10))))))
def m__law_near : MS := TL.b__law_near_11
def f__law_near : Fn := fnOf [true, false, false] 7 m__law_near
def q_law_k06_1 : MS := (sSet 1 2 (mCall 1 [false, false] TL.f__law_bag (mCons (mVar 0) (mCons (mVar 1) mNil))))
def q_law_k06_2 : MS := (sUnp 1 (tTuple 2 (tsCons (tName 1 4) (tsCons (tName 1 5) tsNil))) (mCall 1 [true, false] TL.f__law_state (mCons (mVar 2) (mCons (mK (.int 16)) mNil))))
def q_law_k06_3 : MS := (sSetI 1 6 (mCall 1 [true, false, false] TL.f__law_near (mCons (mVar 2) (mCons (mVar 4) (mCons (mVar 5) mNil)))))
def q_law_k06_4 : MS := (sPar 1 [7, 8] (mCons (mTup 1 (mCons (mVar 4) (mCons (mVar 5) mNil))) (mCons (mTup 1 (mCons (mVar 4) (mCons (mVar 6) mNil))) mNil)))
def q_law_k06_5 : MS := (sRet 1 (mK (.bool false)))
def q_law_k06_6 : MS := (sIf (mB (mOp2 gNe (mCall 1 [false, false] TL.f_kept (mCons (mVar 7) (mCons (mVar 8) mNil))) (mCall 1 [false, false] TL.f__law_same (mCons (mVar 5) (mCons (mVar 6) mNil)))))
    TL.q_law_k06_5
    sNext)
def q_law_k06_7 : MS := (sSetI 1 9 (mCall 1 [false, false] TL.f__law_steps (mCons (mVar 5) (mCons (mVar 6) mNil))))
def q_law_k06_8 : MS := (sSetI 1 10 (mCall 1 [false, false] TL.f_shortest (mCons (mVar 7) (mCons (mVar 8) mNil))))
def q_law_k06_9 : MS := (sRet 1 (mK (.bool false)))
def q_law_k06_10 : MS := (sIf (mOr (mB (mOp2 gNe (mCall 1 [false, false] TL.f_distance (mCons (mVar 7) (mCons (mVar 8) mNil))) (mVar 9))) (mOr (mB (mOp2 gNe (mCB gLen (mCons (mVar 10) mNil)) (mVar 9))) (mB (mOp2 gNe (mCall 1 [false, false] TL.f__law_last (mCons (mVar 5) (mCons (mVar 10) mNil))) (mVar 6)))))
    TL.q_law_k06_9
    sNext)
def q_law_k06_11 : MS := (sRet 1 (mK (.bool false)))
def q_law_k06_12 : MS := (sIf (mOr (mB (mOp2 gNe (mOp2 gEq (mVar 9) (mK (.int 0))) (mOp2 gEq (mVar 5) (mVar 6)))) (mB (mOp2 gNe (mCall 1 [false, false] TL.f_kept (mCons (mVar 7) (mCons (mVar 7) mNil))) (mVar 5))))
    TL.q_law_k06_11
    sNext)
def b_law_k06_13 : MS := (sSeq TL.q_law_k06_2
    (sSeq TL.q_law_k06_3
    (sSeq TL.q_law_k06_4
    (sSeq TL.q_law_k06_6
    (sSeq TL.q_law_k06_7
    (sSeq TL.q_law_k06_8
    (sSeq TL.q_law_k06_10
    TL.q_law_k06_12)))))))
def q_law_k06_14 : MS := (sFor (mRng1 (mK (.int 6))) (tName 1 3)
    TL.b_law_k06_13)
def b_law_k06_15 : MS := (sSeq TL.q_law_k06_1
    TL.q_law_k06_14)
def q_law_k06_16 : MS := (sFor (mRng1 (mOp2 gAdd (mCB gMin (mCons (mCB gLen (mCons (mVar 0) mNil)) (mCons (mK (.int 6)) mNil))) (mK (.int 2)))) (tName 1 1)
    TL.b_law_k06_15)
def q_law_k06_17 : MS := (sPar 1 [11, 12] (mCons (mTup 1 (mCons (mK (.int 5)) (mCons (mTup 1 (mCons (mK (.int 2)) (mCons (mK (.int 5)) (mCons (mK (.int 1)) mNil)))) mNil))) (mCons (mTup 1 (mCons (mK (.int 5)) (mCons (mTup 1 (mCons (mK (.int 2)) (mCons (mK (.int 1)) (mCons (mK (.int 4)) (mCons (mK (.int 3)) mNil))))) mNil))) mNil)))
def q_law_k06_18 : MS := (sRet 1 (mAndV (mOp2 gEq (mCall 1 [false, false] TL.f_kept (mCons (mVar 11) (mCons (mVar 12) mNil))) (mTup 1 (mCons (mK (.int 2)) (mCons (mK (.int 1)) mNil)))) (mOp2 gEq (mLst 1 (mCons (mCall 1 [false, false] TL.f_distance (mCons (mVar 11) (mCons (mVar 12) mNil))) (mCons (mCall 1 [false, false] TL.f_distance (mCons (mVar 12) (mCons (mVar 11) mNil))) mNil))) (mLst 1 (mCons (mK (.int 3)) (mCons (mK (.int 3)) mNil))))))
def b_law_k06_19 : MS := (sSeq TL.q_law_k06_16
    (sSeq TL.q_law_k06_17
    TL.q_law_k06_18))
def m_law_k06 : MS := TL.b_law_k06_19
def f_law_k06 : Fn := fnOf [false] 13 m_law_k06
def q__law_table_1 : MS := (sPar 4 [4, 5, 6] (mCons mDT (mCons (mLst 4 (mCons (mTup 4 (mCons (mK (.int 0)) (mCons (mVar 1) mNil))) mNil)) (mCons (mCall 4 [false] TL.f__law_actions (mCons (mVar 0) mNil)) mNil))))
def q__law_table_2 : MS := (sUnp 4 (tTuple 2 (tsCons (tName 4 7) (tsCons (tName 4 8) tsNil))) (mPopAt 5 (mK (.int 0))))
def q__law_table_3 : MS := (sPutD 4 4 (mVar 8) (mVar 7))
def q__law_table_4 : MS := (sSetI 4 10 (mCall 4 [false, false] TL.f__law_after (mCons (mVar 8) (mCons (mVar 9) mNil))))
def q__law_table_5 : MS := (sDrop (mAppend 4 5 (mTup 4 (mCons (mOp2 gAdd (mOp2 gAdd (mVar 7) (mVar 2)) (mOp2 gMul (mVar 3) (mCB gLen (mCons (mOp2 gIx (mVar 9) (mK (.int 1))) mNil)))) (mCons (mVar 10) mNil)))))
def q__law_table_6 : MS := (sIf (mB (mOp2 gDNotIn (mVar 10) (mVar 4)))
    TL.q__law_table_5
    sNext)
def b__law_table_7 : MS := (sSeq TL.q__law_table_4
    TL.q__law_table_6)
def q__law_table_8 : MS := (sFor (mSeq 4 (mVar 6)) (tName 4 9)
    TL.b__law_table_7)
def q__law_table_9 : MS := (sSet 4 5 (mSetI (fun ns => .tmp (.ol ((sortI (dedupI ns)).map .int))) (mVar 5)))
def b__law_table_10 : MS := (sSeq TL.q__law_table_3
    (sSeq TL.q__law_table_8
    TL.q__law_table_9))
def q__law_table_11 : MS := (sIf (mB (mOp2 gDNotIn (mVar 8) (mVar 4)))
    TL.b__law_table_10
    sNext)
def b__law_table_12 : MS := (sSeq TL.q__law_table_2
    TL.q__law_table_11)
def q__law_table_13 : MS := (whileS (mB (mOp2 gNe (mVar 5) (mLst 4 mNil)))
    TL.b__law_table_12 1000)
def q__law_table_14 : MS := (sRet 4 (mVar 4))
def b__law_table_15 : MS := (sSeq TL.q__law_table_1
    (sSeq TL.q__law_table_13
    TL.q__law_table_14))
def m__law_table : MS := TL.b__law_table_15
def f__law_table : Fn := fnOf [false, false, false, false] 11 m__law_table
def q__law_cost_1 : MS := (sRet 3 (mCB gSum (mCons (mLc 3 [3] (mSeq 3 (mVar 0)) (tName 3 3) mYes (mOp2 gAdd (mVar 1) (mOp2 gMul (mVar 2) (mCB gLen (mCons (mOp2 gIx (mVar 3) (mK (.int 1))) mNil))))) mNil)))
def m__law_cost : MS := TL.q__law_cost_1
def f__law_cost : Fn := fnOf [false, false, false] 4 m__law_cost
def q_law_k07_1 : MS := (sSet 1 2 (mCall 1 [false, false] TL.f__law_bag (mCons (mVar 0) (mCons (mVar 1) mNil))))
def q_law_k07_2 : MS := (sUnp 1 (tTuple 2 (tsCons (tName 1 3) (tsCons (tName 1 4) tsNil))) (mCall 1 [true, false] TL.f__law_state (mCons (mVar 2) (mCons (mK (.int 3)) mNil))))
def q_law_k07_3 : MS := (sPar 1 [5, 6] (mCons (mCall 1 [true, false] TL.f__law_of (mCons (mVar 2) (mCons (mLst 1 (mCons (mK (.int 0)) (mCons (mK (.int 1)) (mCons (mK (.int 10)) (mCons (mK (.int 1000)) mNil))))) mNil))) (mCons (mCall 1 [true, false] TL.f__law_of (mCons (mVar 2) (mCons (mLst 1 (mCons (mK (.int 0)) (mCons (mK (.int 1)) (mCons (mK (.int 3)) (mCons (mK (.int 1000)) mNil))))) mNil))) mNil)))
def q_law_k07_4 : MS := (sSetI 1 7 (mCall 1 [false, false, false, false] TL.f__law_table (mCons (mVar 3) (mCons (mVar 4) (mCons (mVar 5) (mCons (mVar 6) mNil))))))
def q_law_k07_5 : MS := (sSetI 1 9 (mCall 1 [false, false, false, false] TL.f_cheapest (mCons (mTup 1 (mCons (mVar 3) (mCons (mVar 4) mNil))) (mCons (mTup 1 (mCons (mVar 3) (mCons (mVar 8) mNil))) (mCons (mVar 5) (mCons (mVar 6) mNil))))))
def q_law_k07_6 : MS := (sRet 1 (mK (.bool false)))
def q_law_k07_7 : MS := (sIf (mB (mOp2 gNe (mCall 1 [false, false, false, false] TL.f_least_price (mCons (mTup 1 (mCons (mVar 3) (mCons (mVar 4) mNil))) (mCons (mTup 1 (mCons (mVar 3) (mCons (mVar 8) mNil))) (mCons (mVar 5) (mCons (mVar 6) mNil))))) (mOp2 gDIx (mVar 7) (mVar 8))))
    TL.q_law_k07_6
    sNext)
def q_law_k07_8 : MS := (sRet 1 (mK (.bool false)))
def q_law_k07_9 : MS := (sIf (mOr (mB (mOp2 gNe (mCall 1 [false, false, false] TL.f__law_cost (mCons (mVar 9) (mCons (mVar 5) (mCons (mVar 6) mNil)))) (mOp2 gDIx (mVar 7) (mVar 8)))) (mB (mOp2 gNe (mCall 1 [false, false] TL.f__law_last (mCons (mVar 4) (mCons (mVar 9) mNil))) (mVar 8))))
    TL.q_law_k07_8
    sNext)
def b_law_k07_10 : MS := (sSeq TL.q_law_k07_5
    (sSeq TL.q_law_k07_7
    TL.q_law_k07_9))
def q_law_k07_11 : MS := (sForD 7 (tName 1 8)
    TL.b_law_k07_10)
def q_law_k07_12 : MS := (sSetI 1 3 (mOp2 gAdd (mK (.int 1)) (mCall 1 [true, false] TL.f__law_take (mCons (mVar 2) (mCons (mK (.int 16)) mNil)))))
def q_law_k07_13 : MS := (sPar 1 [4, 8] (mCons (mCall 1 [true, false] TL.f__law_list (mCons (mVar 2) (mCons (mVar 3) mNil))) (mCons (mCall 1 [true, false] TL.f__law_list (mCons (mVar 2) (mCons (mVar 3) mNil))) mNil)))
def q_law_k07_14 : MS := (sSetI 1 10 (mOp2 gSub (mOp2 gAdd (mCB gLen (mCons (mVar 4) mNil)) (mCB gLen (mCons (mVar 8) mNil))) (mOp2 gMul (mK (.int 2)) (mCB gLen (mCons (mCall 1 [false, false] TL.f__law_same (mCons (mVar 4) (mCons (mVar 8) mNil))) mNil)))))
def q_law_k07_15 : MS := (sSetI 1 11 (mOp2 gAdd (mOp2 gMul (mVar 5) (mCall 1 [false, false] TL.f__law_steps (mCons (mVar 4) (mCons (mVar 8) mNil)))) (mOp2 gMul (mVar 6) (mVar 10))))
def q_law_k07_16 : MS := (sSetI 1 9 (mCall 1 [false, false, false, false] TL.f_cheapest (mCons (mTup 1 (mCons (mVar 3) (mCons (mVar 4) mNil))) (mCons (mTup 1 (mCons (mVar 3) (mCons (mVar 8) mNil))) (mCons (mVar 5) (mCons (mVar 6) mNil))))))
def q_law_k07_17 : MS := (sRet 1 (mK (.bool false)))
def q_law_k07_18 : MS := (sIf (mOr (mB (mOp2 gNe (mCall 1 [false, false, false, false] TL.f_least_price (mCons (mTup 1 (mCons (mVar 3) (mCons (mVar 4) mNil))) (mCons (mTup 1 (mCons (mVar 3) (mCons (mVar 8) mNil))) (mCons (mVar 5) (mCons (mVar 6) mNil))))) (mVar 11))) (mB (mOp2 gNe (mCall 1 [false, false, false] TL.f__law_cost (mCons (mVar 9) (mCons (mVar 5) (mCons (mVar 6) mNil)))) (mVar 11))))
    TL.q_law_k07_17
    sNext)
def q_law_k07_19 : MS := (sRet 1 (mK (.bool false)))
def q_law_k07_20 : MS := (sIf (mB (mOp2 gNe (mCall 1 [false, false] TL.f__law_last (mCons (mVar 4) (mCons (mVar 9) mNil))) (mVar 8)))
    TL.q_law_k07_19
    sNext)
def b_law_k07_21 : MS := (sSeq TL.q_law_k07_1
    (sSeq TL.q_law_k07_2
    (sSeq TL.q_law_k07_3
    (sSeq TL.q_law_k07_4
    (sSeq TL.q_law_k07_11
    (sSeq TL.q_law_k07_12
    (sSeq TL.q_law_k07_13
    (sSeq TL.q_law_k07_14
    (sSeq TL.q_law_k07_15
    (sSeq TL.q_law_k07_16
    (sSeq TL.q_law_k07_18
    TL.q_law_k07_20)))))))))))
def q_law_k07_22 : MS := (sFor (mRng1 (mOp2 gAdd (mCB gMin (mCons (mCB gLen (mCons (mVar 0) mNil)) (mCons (mK (.int 3)) mNil))) (mK (.int 2)))) (tName 1 1)
    TL.b_law_k07_21)
def q_law_k07_23 : MS := (sRet 1 (mOp2 gEq (mCall 1 [false, false, false, false] TL.f_least_price (mCons (mTup 1 (mCons (mK (.int 5)) (mCons (mTup 1 (mCons (mK (.int 2)) (mCons (mK (.int 5)) (mCons (mK (.int 1)) mNil)))) mNil))) (mCons (mTup 1 (mCons (mK (.int 5)) (mCons (mTup 1 (mCons (mK (.int 2)) (mCons (mK (.int 1)) (mCons (mK (.int 4)) (mCons (mK (.int 3)) mNil))))) mNil))) (mCons (mK (.int 10)) (mCons (mK (.int 1)) mNil))))) (mK (.int 33))))
def b_law_k07_24 : MS := (sSeq TL.q_law_k07_22
    TL.q_law_k07_23)
def m_law_k07 : MS := TL.b_law_k07_24
def f_law_k07 : Fn := fnOf [false] 12 m_law_k07
def q__law_wish_k10_1 : MS := (sSetI 2 2 (mCall 2 [true, false, false] TL.f__law_some (mCons (mVar 0) (mCons (mRgL rfL (mK (.int 1)) (mOp2 gAdd (mVar 1) (mK (.int 1)))) (mCons (mK (.int 0)) mNil)))))
def q__law_wish_k10_2 : MS := (sPar 2 [3, 4, 5, 6] (mCons (mCB gList (mCons (mVar 2) mNil)) (mCons (mLst 2 mNil) (mCons (mLst 2 mNil) (mCons (mOp2 gEq (mCall 2 [true, false] TL.f__law_take (mCons (mVar 0) (mCons (mK (.int 3)) mNil))) (mK (.int 0))) mNil)))))
def q__law_wish_k10_3 : MS := (sDrop (mAppend 2 4 (mPopAt 3 (mCall 2 [true, false] TL.f__law_of (mCons (mVar 0) (mCons (mLst 2 (mCons (mK (.int 0)) (mCons (mCall 2 [true, false] TL.f__law_take (mCons (mVar 0) (mCons (mCB gLen (mCons (mVar 3) mNil)) mNil))) mNil))) mNil))))))
def q__law_wish_k10_4 : MS := (whileS (mB (mOp2 gNe (mVar 3) (mLst 2 mNil)))
    TL.q__law_wish_k10_3 1000)
def q__law_wish_k10_5 : MS := (sSetI 2 8 (mCall 2 [true, false] TL.f__law_take (mCons (mVar 0) (mCons (mOp2 gSub (mCB gLen (mCons (mVar 4) mNil)) (mK (.int 1))) mNil))))
def q__law_wish_k10_6 : MS := (sSetI 2 9 (mTup 2 (mCons (mOp2 gIx (mVar 4) (mVar 8)) (mCons (mOp2 gIx (mVar 4) (mOp2 gAdd (mOp2 gAdd (mVar 8) (mK (.int 1))) (mCall 2 [true, false] TL.f__law_take (mCons (mVar 0) (mCons (mCB gMin (mCons (mK (.int 4)) (mCons (mOp2 gSub (mOp2 gSub (mCB gLen (mCons (mVar 4) mNil)) (mVar 8)) (mK (.int 1))) mNil))) mNil))))) mNil))))
def q__law_wish_k10_7 : MS := (sDrop (mAppend 2 5 (mIf (mOr (mNot (mTru (mVar 6))) (mB (mOp2 gGt (mCall 2 [true, false] TL.f__law_take (mCons (mVar 0) (mCons (mK (.int 5)) mNil))) (mK (.int 0))))) (mVar 9) (mRev (mVar 9)))))
def b__law_wish_k10_8 : MS := (sSeq TL.q__law_wish_k10_5
    (sSeq TL.q__law_wish_k10_6
    TL.q__law_wish_k10_7))
def q__law_wish_k10_9 : MS := (sFor (mRng1 (mCall 2 [true, false] TL.f__law_take (mCons (mVar 0) (mCons (mK (.int 20)) mNil)))) (tName 2 7)
    TL.b__law_wish_k10_8)
def q__law_wish_k10_10 : MS := (sIf (mB (mOp2 gGt (mCB gLen (mCons (mVar 4) mNil)) (mK (.int 1))))
    TL.q__law_wish_k10_9
    sNext)
def q__law_wish_k10_11 : MS := (sRet 2 (mTup 2 (mCons (mVar 2) (mCons (mCB gTuple (mCons (mSetI (fun ns => .tmp (.ol ((sortI (dedupI ns)).map .int))) (mVar 5)) mNil)) mNil))))
def b__law_wish_k10_12 : MS := (sSeq TL.q__law_wish_k10_1
    (sSeq TL.q__law_wish_k10_2
    (sSeq TL.q__law_wish_k10_4
    (sSeq TL.q__law_wish_k10_10
    TL.q__law_wish_k10_11))))
def m__law_wish_k10 : MS := TL.b__law_wish_k10_12
def f__law_wish_k10 : Fn := fnOf [true, false] 10 m__law_wish_k10
def q__law_ready_1 : MS := (sRet 3 (mOp2 gEq (mLc 3 [3, 4] (mSeq 3 (mOp2 gIx (mVar 0) (mK (.int 1)))) (tTuple 2 (tsCons (tName 3 3) (tsCons (tName 3 4) tsNil))) (mAnd (mB (mOp2 gEq (mVar 4) (mVar 1))) (mB (mOp2 gNotIn (mVar 3) (mVar 2)))) (mVar 3)) (mLst 3 mNil)))
def m__law_ready : MS := TL.q__law_ready_1
def f__law_ready : Fn := fnOf [false, false, false] 5 m__law_ready
def q__law_ordered_1 : MS := (sSet 1 1 (mLst 1 mNil))
def q__law_ordered_2 : MS := (sDrop (mAppend 1 1 (mVar 3)))
def q__law_ordered_3 : MS := (sIf (mAnd (mB (mOp2 gNotIn (mVar 3) (mVar 1))) (mTru (mCall 1 [false, false, false] TL.f__law_ready (mCons (mVar 0) (mCons (mVar 3) (mCons (mVar 1) mNil))))))
    TL.q__law_ordered_2
    sNext)
def q__law_ordered_4 : MS := (sFor (mSeq 1 (mOp2 gIx (mVar 0) (mK (.int 0)))) (tName 1 3)
    TL.q__law_ordered_3)
def q__law_ordered_5 : MS := (sFor (mSeq 1 (mOp2 gIx (mVar 0) (mK (.int 0)))) (tName 1 2)
    TL.q__law_ordered_4)
def q__law_ordered_6 : MS := (sRet 1 (mOp2 gEq (mCB gLen (mCons (mVar 1) mNil)) (mCB gLen (mCons (mOp2 gIx (mVar 0) (mK (.int 0))) mNil))))
def b__law_ordered_7 : MS := (sSeq TL.q__law_ordered_1
    (sSeq TL.q__law_ordered_5
    TL.q__law_ordered_6))
def m__law_ordered : MS := TL.b__law_ordered_7
def f__law_ordered : Fn := fnOf [false] 4 m__law_ordered
def q__law_kept_1 : MS := (sSet 2 2 (mTup 2 mNil))
def q__law_kept_2 : MS := (sSet 2 2 (mOp2 gAdd (mVar 2) (mTup 2 (mCons (mVar 3) mNil))))
def q__law_kept_3 : MS := (sIf (mAnd (mB (mOp2 gIn (mVar 3) (mOp2 gIx (mVar 1) (mK (.int 0))))) (mTru (mCall 2 [false, false, false] TL.f__law_ready (mCons (mVar 1) (mCons (mVar 3) (mCons (mVar 2) mNil))))))
    TL.q__law_kept_2
    sNext)
def q__law_kept_4 : MS := (sFor (mSeq 2 (mVar 0)) (tName 2 3)
    TL.q__law_kept_3)
def q__law_kept_5 : MS := (sRet 2 (mVar 2))
def b__law_kept_6 : MS := (sSeq TL.q__law_kept_1
    (sSeq TL.q__law_kept_4
    TL.q__law_kept_5))
def m__law_kept : MS := TL.b__law_kept_6
def f__law_kept : Fn := fnOf [false, false] 4 m__law_kept
def q__law_circle_right_1 : MS := (sRet 2 (mK (.bool false)))
def q__law_circle_right_2 : MS := (sIf (mOr (mNot (mTru (mIs "list" (mVar 1)))) (mOr (mB (mOp2 gEq (mVar 1) (mLst 2 mNil))) (mB (mOp2 gNe (mSetI (fun ns => .im (.int ((dedupI ns).length : Nat))) (mVar 1)) (mCB gLen (mCons (mVar 1) mNil))))))
    TL.q__law_circle_right_1
    sNext)
def q__law_circle_right_3 : MS := (sRet 2 (mOp2 gEq (mLc 2 [2] (mZip 2 (mVar 1) (mOp2 gAdd (mSlice (mVar 1) (mPart (mK (.int 1))) mNoPart) (mSlice (mVar 1) mNoPart (mPart (mK (.int 1)))))) (tName 2 2) (mB (mOp2 gNotIn (mVar 2) (mOp2 gIx (mVar 0) (mK (.int 1))))) (mK (.int 1))) (mLst 2 mNil)))
def b__law_circle_right_4 : MS := (sSeq TL.q__law_circle_right_2
    TL.q__law_circle_right_3)
def m__law_circle_right : MS := TL.b__law_circle_right_4
def f__law_circle_right : Fn := fnOf [false, false] 3 m__law_circle_right
def q__law_choose_1 : MS := (sSetI 2 2 (mLst 2 (mCons (mK (.int 1)) mNil)))
def q__law_choose_2 : MS := (sSetI 2 2 (mOp2 gAdd (mOp2 gAdd (mLst 2 (mCons (mK (.int 1)) mNil)) (mLc 2 [4, 5] (mZip 2 (mVar 2) (mSlice (mVar 2) (mPart (mK (.int 1))) mNoPart)) (tTuple 2 (tsCons (tName 2 4) (tsCons (tName 2 5) tsNil))) mYes (mOp2 gAdd (mVar 4) (mVar 5)))) (mLst 2 (mCons (mK (.int 1)) mNil))))
def q__law_choose_3 : MS := (sFor (mRng1 (mVar 0)) (tName 2 3)
    TL.q__law_choose_2)
def q__law_choose_4 : MS := (sRet 2 (mIf (mB (mOp2 gLe (mVar 1) (mVar 0))) (mOp2 gIx (mVar 2) (mVar 1)) (mK (.int 0))))
def b__law_choose_5 : MS := (sSeq TL.q__law_choose_1
    (sSeq TL.q__law_choose_3
    TL.q__law_choose_4))
def m__law_choose : MS := TL.b__law_choose_5
def f__law_choose : Fn := fnOf [false, false] 6 m__law_choose
def q__law_descents_1 : MS := (sSet 1 1 (mLst 1 (mCons (mK (.int 1)) mNil)))
def q__law_descents_2 : MS := (sSet 1 3 (mLst 1 mNil))
def q__law_descents_3 : MS := (sSetI 1 5 (mIf (mB (mOp2 gLt (mVar 4) (mCB gLen (mCons (mVar 1) mNil)))) (mOp2 gMul (mOp2 gIx (mVar 1) (mVar 4)) (mOp2 gAdd (mVar 4) (mK (.int 1)))) (mK (.int 0))))
def q__law_descents_4 : MS := (sDrop (mAppend 1 3 (mOp2 gAdd (mVar 5) (mIf (mB (mOp2 gGt (mVar 4) (mK (.int 0)))) (mOp2 gMul (mOp2 gIx (mVar 1) (mOp2 gSub (mVar 4) (mK (.int 1)))) (mOp2 gSub (mVar 2) (mVar 4))) (mK (.int 0))))))
def b__law_descents_5 : MS := (sSeq TL.q__law_descents_3
    TL.q__law_descents_4)
def q__law_descents_6 : MS := (sFor (mRng1 (mVar 2)) (tName 1 4)
    TL.b__law_descents_5)
def q__law_descents_7 : MS := (sSet 1 1 (mVar 3))
def b__law_descents_8 : MS := (sSeq TL.q__law_descents_2
    (sSeq TL.q__law_descents_6
    TL.q__law_descents_7))
def q__law_descents_9 : MS := (sFor (mRng2 (mK (.int 2)) (mOp2 gAdd (mVar 0) (mK (.int 1)))) (tName 1 2)
    TL.b__law_descents_8)
def q__law_descents_10 : MS := (sRet 1 (mVar 1))
def b__law_descents_11 : MS := (sSeq TL.q__law_descents_1
    (sSeq TL.q__law_descents_9
    TL.q__law_descents_10))
def m__law_descents : MS := TL.b__law_descents_11
def f__law_descents : Fn := fnOf [false] 6 m__law_descents
def q_law_k13_1 : MS := (sSet 1 2 (mCall 1 [false, false] TL.f__law_bag (mCons (mVar 0) (mCons (mVar 1) mNil))))
def q_law_k13_2 : MS := (sSetI 1 4 (mCall 1 [true, false] TL.f__law_state (mCons (mVar 2) (mCons (mK (.int 4)) mNil))))
def q_law_k13_3 : MS := (sSetI 1 5 (mCall 1 [false, false] TL.f__law_layers (mCons (mOp2 gIx (mVar 4) (mK (.int 0))) (mCons (mOp2 gIx (mVar 4) (mK (.int 1))) mNil))))
def q_law_k13_4 : MS := (sSetI 1 6 (mLcD 1 [8] 5 (tName 1 8) mYes (mOp2 gDIx (mVar 5) (mVar 8))))
def q_law_k13_5 : MS := (sRet 1 (mK (.bool false)))
def q_law_k13_6 : MS := (sIf (mB (mOp2 gNe (mCB gLen (mCons (mVar 6) mNil)) (mCB gLen (mCons (mCall 1 [false] TL.f__law_all (mCons (mOp2 gIx (mVar 4) (mK (.int 0))) mNil)) mNil))))
    TL.q_law_k13_5
    sNext)
def q_law_k13_7 : MS := (sRet 1 (mK (.bool false)))
def q_law_k13_8 : MS := (sIf (mB (mOp2 gNe (mCall 1 [false, false] TL.f_count_at_k01 (mCons (mVar 4) (mCons (mVar 7) mNil))) (mCB gLen (mCons (mLc 1 [9] (mSeq 1 (mVar 6)) (tName 1 9) (mB (mOp2 gEq (mVar 9) (mVar 7))) (mVar 9)) mNil))))
    TL.q_law_k13_7
    sNext)
def q_law_k13_9 : MS := (sFor (mRng1 (mK (.int 8))) (tName 1 7)
    TL.q_law_k13_8)
def q_law_k13_10 : MS := (sRet 1 (mK (.bool false)))
def q_law_k13_11 : MS := (sIf (mB (mOp2 gNe (mCall 1 [false, false] TL.f_count_at_k01 (mCons (mVar 4) (mCons (mK (.int 16)) mNil))) (mK (.int 0))))
    TL.q_law_k13_10
    sNext)
def b_law_k13_12 : MS := (sSeq TL.q_law_k13_2
    (sSeq TL.q_law_k13_3
    (sSeq TL.q_law_k13_4
    (sSeq TL.q_law_k13_6
    (sSeq TL.q_law_k13_9
    TL.q_law_k13_11)))))
def q_law_k13_13 : MS := (sFor (mRng1 (mK (.int 2))) (tName 1 3)
    TL.b_law_k13_12)
def b_law_k13_14 : MS := (sSeq TL.q_law_k13_1
    TL.q_law_k13_13)
def q_law_k13_15 : MS := (sFor (mRng1 (mOp2 gAdd (mCB gMin (mCons (mCB gLen (mCons (mVar 0) mNil)) (mCons (mK (.int 3)) mNil))) (mK (.int 1)))) (tName 1 1)
    TL.b_law_k13_14)
def q_law_k13_16 : MS := (sRet 1 (mK (.bool false)))
def q_law_k13_17 : MS := (sIf (mB (mOp2 gNe (mLc 1 [7] (mRng1 (mK (.int 4))) (tName 1 7) mYes (mCall 1 [false, false] TL.f_count_at_k01 (mCons (mTup 1 (mCons (mK (.int 2)) (mCons (mTup 1 mNil) mNil))) (mCons (mVar 7) mNil)))) (mLst 1 (mCons (mK (.int 1)) (mCons (mK (.int 3)) (mCons (mK (.int 1)) (mCons (mK (.int 0)) mNil)))))))
    TL.q_law_k13_16
    sNext)
def q_law_k13_18 : MS := (sRet 1 (mAndV (mOp2 gEq (mCall 1 [false, false] TL.f_count_at_k01 (mCons (mTup 1 (mCons (mK (.int 5)) (mCons (mTup 1 mNil) mNil))) (mCons (mK (.int 5)) mNil))) (mK (.int 1))) (mOp2 gEq (mCall 1 [false, false] TL.f_count_at_k01 (mCons (mTup 1 (mCons (mK (.int 3)) (mCons (mTup 1 (mCons (mK (.int 2)) mNil)) mNil))) (mCons (mK (.int 0)) mNil))) (mK (.int 1)))))
def b_law_k13_19 : MS := (sSeq TL.q_law_k13_15
    (sSeq TL.q_law_k13_17
    TL.q_law_k13_18))
def m_law_k13 : MS := TL.b_law_k13_19
def f_law_k13 : Fn := fnOf [false] 10 m_law_k13
def q__law_neighboring_1 : MS := (sSetI 3 3 (mOp2 gIx (mVar 2) (mK (.int 1))))
def q__law_neighboring_2 : MS := (sRet 3 (mK (.bool false)))
def q__law_neighboring_3 : MS := (sIf (mOr (mB (mOp2 gNe (mOp2 gIx (mVar 2) (mK (.int 0))) (mK (.str "add")))) (mB (mOp2 gNe (mLc 3 [5] (mSeq 3 (mVar 3)) (tName 3 5) (mB (mOp2 gIn (mVar 5) (mVar 1))) (mVar 5)) (mLst 3 mNil))))
    TL.q__law_neighboring_2
    sNext)
def q__law_neighboring_4 : MS := (sSetI 3 4 (mLc 3 [5] (mRng2 (mOp2 gIx (mVar 3) (mK (.int 0))) (mOp2 gAdd (mOp2 gIx (mVar 3) (mOp1 gNeg (mK (.int 1)))) (mK (.int 1)))) (tName 3 5) (mB (mOp2 gNotIn (mVar 5) (mVar 1))) (mVar 5)))
def q__law_neighboring_5 : MS := (sRet 3 (mAndV (mOp2 gEq (mCB gTuple (mCons (mVar 4) mNil)) (mVar 3)) (mAndV (mOp2 gLe (mK (.int 1)) (mOp2 gIx (mVar 3) (mK (.int 0)))) (mOp2 gLe (mOp2 gIx (mVar 3) (mOp1 gNeg (mK (.int 1)))) (mVar 0)))))
def b__law_neighboring_6 : MS := (sSeq TL.q__law_neighboring_1
    (sSeq TL.q__law_neighboring_3
    (sSeq TL.q__law_neighboring_4
    TL.q__law_neighboring_5)))
def m__law_neighboring : MS := TL.b__law_neighboring_6
def f__law_neighboring : Fn := fnOf [false, false, false] 6 m__law_neighboring
def q__law_search_1 : MS := (sPar 1 [1, 2, 3] (mCons (mDisp1 1 (mTup 1 mNil) (mK (.int 0))) (mCons (mLst 1 (mCons (mTup 1 mNil) mNil)) (mCons (mK (.int 0)) mNil))))
def q__law_search_2 : MS := (sPar 1 [3, 4] (mCons (mOp2 gAdd (mVar 3) (mK (.int 1))) (mCons (mLst 1 mNil) mNil)))
def q__law_search_3 : MS := (sSetI 1 7 (mCall 1 [false, false] TL.f__law_after (mCons (mVar 5) (mCons (mVar 6) mNil))))
def q__law_search_4 : MS := (sPutD 1 1 (mVar 7) (mVar 3))
def q__law_search_5 : MS := (sDrop (mAppend 1 4 (mVar 7)))
def b__law_search_6 : MS := (sSeq TL.q__law_search_4
    TL.q__law_search_5)
def q__law_search_7 : MS := (sIf (mB (mOp2 gDNotIn (mVar 7) (mVar 1)))
    TL.b__law_search_6
    sNext)
def b__law_search_8 : MS := (sSeq TL.q__law_search_3
    TL.q__law_search_7)
def q__law_search_9 : MS := (sIf (mTru (mCall 1 [false, false, false] TL.f__law_neighboring (mCons (mVar 0) (mCons (mVar 5) (mCons (mVar 6) mNil)))))
    TL.b__law_search_8
    sNext)
def q__law_search_10 : MS := (sFor (mSeq 1 (mCall 1 [false] TL.f__law_actions (mCons (mVar 0) mNil))) (tName 1 6)
    TL.q__law_search_9)
def q__law_search_11 : MS := (sFor (mSeq 1 (mVar 2)) (tName 1 5)
    TL.q__law_search_10)
def q__law_search_12 : MS := (sSetI 1 2 (mVar 4))
def b__law_search_13 : MS := (sSeq TL.q__law_search_2
    (sSeq TL.q__law_search_11
    TL.q__law_search_12))
def q__law_search_14 : MS := (whileS (mB (mOp2 gNe (mVar 2) (mLst 1 mNil)))
    TL.b__law_search_13 1000)
def q__law_search_15 : MS := (sRet 1 (mVar 1))
def b__law_search_16 : MS := (sSeq TL.q__law_search_1
    (sSeq TL.q__law_search_14
    TL.q__law_search_15))
def m__law_search : MS := TL.b__law_search_16
def f__law_search : Fn := fnOf [false] 8 m__law_search
def q__law_breaks_1 : MS := (sSet 2 2 (mK (.int 0)))
def q__law_breaks_2 : MS := (sSetI 2 5 (mLc 2 [6] (mRng2 (mK (.int 1)) (mOp2 gAdd (mVar 0) (mK (.int 1)))) (tName 2 6) (mB (mOp2 gNotIn (mVar 6) (mSlice (mVar 1) mNoPart (mPart (mVar 3))))) (mVar 6)))
def q__law_breaks_3 : MS := (sSet 2 2 (mOp2 gAdd (mVar 2) (mK (.int 1))))
def q__law_breaks_4 : MS := (sIf (mOr (mB (mOp2 gEq (mVar 3) (mK (.int 0)))) (mOr (mB (mOp2 gLt (mVar 4) (mOp2 gIx (mVar 1) (mOp2 gSub (mVar 3) (mK (.int 1)))))) (mB (mOp2 gNe (mLc 2 [6] (mSeq 2 (mVar 5)) (tName 2 6) (mB (mChain gLt gLt (mOp2 gIx (mVar 1) (mOp2 gSub (mVar 3) (mK (.int 1)))) (mVar 6) (mVar 4))) (mK (.int 1))) (mLst 2 mNil)))))
    TL.q__law_breaks_3
    sNext)
def b__law_breaks_5 : MS := (sSeq TL.q__law_breaks_2
    TL.q__law_breaks_4)
def q__law_breaks_6 : MS := (sFor (mEnum 2 (mVar 1)) (tTuple 2 (tsCons (tName 2 3) (tsCons (tName 2 4) tsNil)))
    TL.b__law_breaks_5)
def q__law_breaks_7 : MS := (sRet 2 (mVar 2))
def b__law_breaks_8 : MS := (sSeq TL.q__law_breaks_1
    (sSeq TL.q__law_breaks_6
    TL.q__law_breaks_7))
def m__law_breaks : MS := TL.b__law_breaks_8
def f__law_breaks : Fn := fnOf [false, false] 7 m__law_breaks
def q_law_k14_1 : MS := (sSet 1 2 (mCall 1 [false, false] TL.f__law_bag (mCons (mVar 0) (mCons (mVar 1) mNil))))
def q_law_k14_2 : MS := (sSetI 1 3 (mOp2 gAdd (mK (.int 1)) (mCall 1 [true, false] TL.f__law_take (mCons (mVar 2) (mCons (mK (.int 4)) mNil)))))
def q_law_k14_3 : MS := (sSetI 1 4 (mCall 1 [false] TL.f__law_search (mCons (mVar 3) mNil)))
def q_law_k14_4 : MS := (sSetI 1 5 (mOp2 gAdd (mLc 1 [11] (mSeq 1 (mCB gSortedG (mCons (mVar 4) mNil))) (tName 1 11) mYes (mTup 1 (mCons (mVar 3) (mCons (mVar 11) mNil)))) (mLc 1 [12] (mRng1 (mK (.int 4))) (tName 1 12) mYes (mCall 1 [true, false] TL.f__law_state (mCons (mVar 2) (mCons (mK (.int 16)) mNil))))))
def q_law_k14_5 : MS := (sSetI 1 7 (mCall 1 [false, false] TL.f__law_breaks (mCons (mOp2 gIx (mVar 6) (mK (.int 0))) (mCons (mOp2 gIx (mVar 6) (mK (.int 1))) mNil))))
def q_law_k14_6 : MS := (sRet 1 (mK (.bool false)))
def q_law_k14_7 : MS := (sIf (mAnd (mB (mOp2 gEq (mOp2 gIx (mVar 6) (mK (.int 0))) (mVar 3))) (mB (mOp2 gNe (mOp2 gDIx (mVar 4) (mOp2 gIx (mVar 6) (mK (.int 1)))) (mVar 7))))
    TL.q_law_k14_6
    sNext)
def q_law_k14_8 : MS := (sPar 1 [8, 9] (mCons (mCall 1 [false] TL.f_neighbor_script (mCons (mVar 6) mNil)) (mCons (mTup 1 mNil) mNil)))
def q_law_k14_9 : MS := (sRet 1 (mK (.bool false)))
def q_law_k14_10 : MS := (sIf (mOr (mB (mOp2 gNe (mCall 1 [false] TL.f_neighbor_adds (mCons (mVar 6) mNil)) (mVar 7))) (mOr (mNot (mTru (mIs "tuple" (mVar 8)))) (mB (mOp2 gNe (mCB gLen (mCons (mVar 8) mNil)) (mVar 7)))))
    TL.q_law_k14_9
    sNext)
def q_law_k14_11 : MS := (sRet 1 (mK (.bool false)))
def q_law_k14_12 : MS := (sIf (mNot (mTru (mCall 1 [false, false, false] TL.f__law_neighboring (mCons (mOp2 gIx (mVar 6) (mK (.int 0))) (mCons (mVar 9) (mCons (mVar 10) mNil))))))
    TL.q_law_k14_11
    sNext)
def q_law_k14_13 : MS := (sSetI 1 9 (mCall 1 [false, false] TL.f__law_after (mCons (mVar 9) (mCons (mVar 10) mNil))))
def b_law_k14_14 : MS := (sSeq TL.q_law_k14_12
    TL.q_law_k14_13)
def q_law_k14_15 : MS := (sFor (mSeq 1 (mVar 8)) (tName 1 10)
    TL.b_law_k14_14)
def q_law_k14_16 : MS := (sRet 1 (mK (.bool false)))
def q_law_k14_17 : MS := (sIf (mB (mOp2 gNe (mVar 9) (mOp2 gIx (mVar 6) (mK (.int 1)))))
    TL.q_law_k14_16
    sNext)
def b_law_k14_18 : MS := (sSeq TL.q_law_k14_5
    (sSeq TL.q_law_k14_7
    (sSeq TL.q_law_k14_8
    (sSeq TL.q_law_k14_10
    (sSeq TL.q_law_k14_15
    TL.q_law_k14_17)))))
def q_law_k14_19 : MS := (sFor (mSeq 1 (mVar 5)) (tName 1 6)
    TL.b_law_k14_18)
def b_law_k14_20 : MS := (sSeq TL.q_law_k14_1
    (sSeq TL.q_law_k14_2
    (sSeq TL.q_law_k14_3
    (sSeq TL.q_law_k14_4
    TL.q_law_k14_19))))
def q_law_k14_21 : MS := (sFor (mRng1 (mOp2 gAdd (mCB gMin (mCons (mCB gLen (mCons (mVar 0) mNil)) (mCons (mK (.int 5)) mNil))) (mK (.int 2)))) (tName 1 1)
    TL.b_law_k14_20)
def q_law_k14_22 : MS := (sRet 1 (mK (.bool false)))
def q_law_k14_23 : MS := (sIf (mOr (mB (mOp2 gNe (mCall 1 [false] TL.f_neighbor_adds (mCons (mTup 1 (mCons (mK (.int 4)) (mCons (mTup 1 (mCons (mK (.int 1)) (mCons (mK (.int 3)) (mCons (mK (.int 2)) mNil)))) mNil))) mNil)) (mK (.int 3)))) (mB (mOp2 gNe (mCall 1 [false] TL.f_neighbor_adds (mCons (mTup 1 (mCons (mK (.int 2)) (mCons (mTup 1 mNil) mNil))) mNil)) (mK (.int 0)))))
    TL.q_law_k14_22
    sNext)
def q_law_k14_24 : MS := (sRet 1 (mOp2 gEq (mCall 1 [false] TL.f_neighbor_script (mCons (mTup 1 (mCons (mK (.int 4)) (mCons (mTup 1 (mCons (mK (.int 2)) (mCons (mK (.int 3)) (mCons (mK (.int 1)) (mCons (mK (.int 4)) mNil))))) mNil))) mNil)) (mTup 1 (mCons (mTup 1 (mCons (mK (.str "add")) (mCons (mTup 1 (mCons (mK (.int 2)) (mCons (mK (.int 3)) mNil))) mNil))) (mCons (mTup 1 (mCons (mK (.str "add")) (mCons (mTup 1 (mCons (mK (.int 1)) (mCons (mK (.int 4)) mNil))) mNil))) mNil)))))
def b_law_k14_25 : MS := (sSeq TL.q_law_k14_21
    (sSeq TL.q_law_k14_23
    TL.q_law_k14_24))
def m_law_k14 : MS := TL.b_law_k14_25
def f_law_k14 : Fn := fnOf [false] 13 m_law_k14
def m__law_script : MS := (sRet 3 (mCB gTuple (mCons (mLc 3 [3] (mRng1 (mCall 3 [true, false] TL.f__law_take (mCons (mVar 0) (mCons (mOp2 gAdd (mVar 2) (mK (.int 1))) mNil)))) (tName 3 3) mYes (mCall 3 [true, false] TL.f__law_step (mCons (mVar 0) (mCons (mVar 1) mNil)))) mNil)))
def f__law_script : Fn := fnOf [true, false, false] 4 m__law_script
def m__law_other : MS := (sSeq (sSet 3 3 (mCall 3 [true, false] TL.f__law_take (mCons (mVar 0) (mCons (mK (.int 6)) mNil))))
    (sSeq (sIf (mOr (mB (mOp2 gEq (mVar 2) (mTup 3 mNil))) (mB (mOp2 gEq (mVar 3) (mK (.int 0)))))
    (sRet 3 (mCall 3 [true, false, false] TL.f__law_script (mCons (mVar 0) (mCons (mVar 1) (mCons (mK (.int 3)) mNil)))))
    sNext)
    (sSeq (sSet 3 4 (mCall 3 [true, false] TL.f__law_take (mCons (mVar 0) (mCons (mCB gLen (mCons (mVar 2) mNil)) mNil))))
    (sSeq (sIf (mB (mOp2 gEq (mVar 3) (mK (.int 1))))
    (sRet 3 (mOp2 gAdd (mSlice (mVar 2) mNoPart (mPart (mVar 4))) (mSlice (mVar 2) (mPart (mOp2 gAdd (mVar 4) (mK (.int 1)))) mNoPart)))
    sNext)
    (sSeq (sIf (mB (mOp2 gEq (mVar 3) (mK (.int 2))))
    (sRet 3 (mOp2 gAdd (mOp2 gAdd (mSlice (mVar 2) mNoPart (mPart (mVar 4))) (mTup 3 (mCons (mOp2 gIx (mVar 2) (mVar 4)) mNil))) (mSlice (mVar 2) (mPart (mVar 4)) mNoPart)))
    sNext)
    (sSeq (sIf (mB (mOp2 gEq (mVar 3) (mK (.int 3))))
    (sSeq (sUnp 3 (tTuple 2 (tsCons (tName 3 5) (tsCons (tName 3 6) tsNil))) (mOp2 gIx (mVar 2) (mVar 4)))
    (sRet 3 (mOp2 gAdd (mOp2 gAdd (mSlice (mVar 2) mNoPart (mPart (mVar 4))) (mCB gTuple (mCons (mLc 3 [7] (mSeq 3 (mVar 6)) (tName 3 7) mYes (mTup 3 (mCons (mVar 5) (mCons (mTup 3 (mCons (mVar 7) mNil)) mNil)))) mNil))) (mSlice (mVar 2) (mPart (mOp2 gAdd (mVar 4) (mK (.int 1)))) mNoPart))))
    sNext)
    (sSeq (sIf (mB (mOp2 gEq (mVar 3) (mK (.int 4))))
    (sRet 3 (mOp2 gAdd (mOp2 gAdd (mSlice (mVar 2) mNoPart (mPart (mVar 4))) (mTup 3 (mCons (mCall 3 [true, false] TL.f__law_step (mCons (mVar 0) (mCons (mVar 1) mNil))) mNil))) (mSlice (mVar 2) (mPart (mOp2 gAdd (mVar 4) (mK (.int 1)))) mNoPart)))
    sNext)
    (sRet 3 (mOp2 gAdd (mSlice (mVar 2) (mPart (mVar 4)) mNoPart) (mSlice (mVar 2) mNoPart (mPart (mVar 4))))))))))))
def f__law_other : Fn := fnOf [true, false, false] 8 m__law_other
def m_law_k15 : MS := (sSeq (sFor (mRng1 (mOp2 gAdd (mCB gMin (mCons (mCB gLen (mCons (mVar 0) mNil)) (mCons (mK (.int 4)) mNil))) (mK (.int 2)))) (tName 1 1)
    (sSeq (sSet 1 2 (mCall 1 [false, false] TL.f__law_bag (mCons (mVar 0) (mCons (mVar 1) mNil))))
    (sFor (mRng1 (mK (.int 4))) (tName 1 3)
    (sSeq (sSet 1 4 (mOp2 gAdd (mK (.int 1)) (mCall 1 [true, false] TL.f__law_take (mCons (mVar 2) (mCons (mK (.int 4)) mNil)))))
    (sSeq (sSet 1 5 (mCall 1 [true, false, false] TL.f__law_script (mCons (mVar 2) (mCons (mVar 4) (mCons (mK (.int 5)) mNil)))))
    (sSeq (sSet 1 6 (mCall 1 [true, false, false] TL.f__law_other (mCons (mVar 2) (mCons (mVar 4) (mCons (mVar 5) mNil)))))
    (sSeq (sSet 1 7 (mLc 1 [10] (mSeq 1 (mCall 1 [false] TL.f__law_all (mCons (mVar 4) mNil))) (tName 1 10) (mB (mOp2 gNe (mCall 1 [false, false] TL.f__law_last (mCons (mVar 10) (mCons (mVar 5) mNil))) (mCall 1 [false, false] TL.f__law_last (mCons (mVar 10) (mCons (mVar 6) mNil))))) (mVar 10)))
    (sSeq (sSet 1 8 (mCB gSortedG (mCons (mLc 1 [10] (mSeq 1 (mVar 7)) (tName 1 10) (mB (mOp2 gLt (mCB gLen (mCons (mVar 10) mNil)) (mK (.int 3)))) (mTup 1 (mCons (mCB gLen (mCons (mVar 10) mNil)) (mCons (mVar 10) mNil)))) mNil)))
    (sSeq (sIf (mB (mOp2 gNe (mOp2 gEq (mVar 7) (mLst 1 mNil)) (mOp2 gEq (mVar 8) (mLst 1 mNil))))
    (sRet 1 (mK (.bool false)))
    sNext)
    (sSeq (sSet 1 9 (mIf (mB (mOp2 gNe (mVar 8) (mLst 1 mNil))) (mOp2 gIx (mOp2 gIx (mVar 8) (mK (.int 0))) (mK (.int 1))) (mK .none)))
    (sSeq (sIf (mOr (mB (mOp2 gNe (mCall 1 [false, false, false] TL.f_difference (mCons (mVar 4) (mCons (mVar 5) (mCons (mVar 6) mNil)))) (mVar 9))) (mB (mOp2 gNe (mCall 1 [false, false, false] TL.f_difference (mCons (mVar 4) (mCons (mVar 6) (mCons (mVar 5) mNil)))) (mVar 9))))
    (sRet 1 (mK (.bool false)))
    sNext)
    (sIf (mB (mOp2 gIsNot (mCall 1 [false, false, false] TL.f_difference (mCons (mVar 4) (mCons (mVar 5) (mCons (mVar 5) mNil)))) (mK .none)))
    (sRet 1 (mK (.bool false)))
    sNext))))))))))))
    (sSeq (sIf (mB (mOp2 gIsNot (mCall 1 [false, false, false] TL.f_difference (mCons (mK (.int 3)) (mCons (mTup 1 (mCons (mTup 1 (mCons (mK (.str "add")) (mCons (mTup 1 (mCons (mK (.int 1)) (mCons (mK (.int 2)) mNil))) mNil))) mNil)) (mCons (mTup 1 (mCons (mTup 1 (mCons (mK (.str "add")) (mCons (mTup 1 (mCons (mK (.int 1)) mNil)) mNil))) (mCons (mTup 1 (mCons (mK (.str "add")) (mCons (mTup 1 (mCons (mK (.int 2)) mNil)) mNil))) mNil))) mNil)))) (mK .none)))
    (sRet 1 (mK (.bool false)))
    sNext)
    (sSeq (sIf (mB (mOp2 gNe (mCall 1 [false, false, false] TL.f_difference (mCons (mK (.int 3)) (mCons (mTup 1 (mCons (mTup 1 (mCons (mK (.str "add")) (mCons (mTup 1 (mCons (mK (.int 3)) mNil)) mNil))) (mCons (mTup 1 (mCons (mK (.str "add")) (mCons (mTup 1 (mCons (mK (.int 1)) mNil)) mNil))) mNil))) (mCons (mTup 1 (mCons (mTup 1 (mCons (mK (.str "remove")) (mCons (mTup 1 (mCons (mK (.int 3)) mNil)) mNil))) (mCons (mTup 1 (mCons (mK (.str "add")) (mCons (mTup 1 (mCons (mK (.int 3)) mNil)) mNil))) (mCons (mTup 1 (mCons (mK (.str "add")) (mCons (mTup 1 (mCons (mK (.int 1)) mNil)) mNil))) mNil)))) mNil)))) (mTup 1 (mCons (mK (.int 3)) (mCons (mK (.int 1)) mNil)))))
    (sRet 1 (mK (.bool false)))
    sNext)
    (sRet 1 (mOp2 gEq (mCall 1 [false, false, false] TL.f_difference (mCons (mK (.int 3)) (mCons (mTup 1 (mCons (mTup 1 (mCons (mK (.str "add")) (mCons (mTup 1 (mCons (mK (.int 1)) (mCons (mK (.int 2)) mNil))) mNil))) mNil)) (mCons (mTup 1 (mCons (mTup 1 (mCons (mK (.str "add")) (mCons (mTup 1 (mCons (mK (.int 2)) mNil)) mNil))) (mCons (mTup 1 (mCons (mK (.str "add")) (mCons (mTup 1 (mCons (mK (.int 1)) mNil)) mNil))) mNil))) mNil)))) (mTup 1 mNil))))))
def f_law_k15 : Fn := fnOf [false] 11 m_law_k15
def m__law_equal : MS := (sRet 3 (mOp2 gEq (mLc 3 [3] (mSeq 3 (mVar 0)) (tName 3 3) (mB (mOp2 gNe (mCall 3 [false, false] TL.f__law_last (mCons (mVar 3) (mCons (mVar 1) mNil))) (mCall 3 [false, false] TL.f__law_last (mCons (mVar 3) (mCons (mVar 2) mNil))))) (mVar 3)) (mLst 3 mNil)))
def f__law_equal : Fn := fnOf [false, false, false] 4 m__law_equal
def m_law_k16 : MS := (sSeq (sFor (mRng1 (mOp2 gAdd (mCB gMin (mCons (mCB gLen (mCons (mVar 0) mNil)) (mCons (mK (.int 5)) mNil))) (mK (.int 2)))) (tName 1 1)
    (sSeq (sSet 1 2 (mCall 1 [false, false] TL.f__law_bag (mCons (mVar 0) (mCons (mVar 1) mNil))))
    (sFor (mRng1 (mK (.int 3))) (tName 1 3)
    (sSeq (sSet 1 4 (mOp2 gAdd (mK (.int 1)) (mCall 1 [true, false] TL.f__law_take (mCons (mVar 2) (mCons (mK (.int 4)) mNil)))))
    (sSeq (sSet 1 5 (mCall 1 [false] TL.f__law_all (mCons (mVar 4) mNil)))
    (sSeq (sSet 1 6 (mCB gTuple (mCons (mLc 1 [9] (mRng1 (mCall 1 [true, false] TL.f__law_take (mCons (mVar 2) (mCons (mK (.int 7)) mNil)))) (tName 1 9) mYes (mCall 1 [true, false] TL.f__law_step (mCons (mVar 2) (mCons (mVar 4) mNil)))) mNil)))
    (sSeq (sSet 1 7 (mLc 1 [15] (mRng1 (mCB gLen (mCons (mVar 6) mNil))) (tName 1 15) (mTru (mCall 1 [false, false, false] TL.f__law_equal (mCons (mVar 5) (mCons (mOp2 gAdd (mSlice (mVar 6) mNoPart (mPart (mVar 15))) (mSlice (mVar 6) (mPart (mOp2 gAdd (mVar 15) (mK (.int 1)))) mNoPart)) (mCons (mVar 6) mNil))))) (mVar 15)))
    (sSeq (sSet 1 8 (mCall 1 [false, false] TL.f_needless (mCons (mVar 4) (mCons (mVar 6) mNil))))
    (sSeq (sIf (mB (mOp2 gNe (mVar 8) (mVar 7)))
    (sRet 1 (mK (.bool false)))
    sNext)
    (sSeq (sDrop (mAppend 1 8 (mK .none)))
    (sSeq (sIf (mB (mOp2 gNe (mCall 1 [false, false] TL.f_needless (mCons (mVar 4) (mCons (mVar 6) mNil))) (mVar 7)))
    (sRet 1 (mK (.bool false)))
    sNext)
    (sFor (mRng1 (mK (.int 4))) (tName 1 9)
    (sSeq (sPar 1 [10, 11] (mCons (mCall 1 [true, false] TL.f__law_step (mCons (mVar 2) (mCons (mVar 4) mNil))) (mCons (mCall 1 [true, false] TL.f__law_step (mCons (mVar 2) (mCons (mVar 4) mNil))) mNil)))
    (sSeq (sSet 1 12 (mCall 1 [false, false, false] TL.f__law_equal (mCons (mVar 5) (mCons (mTup 1 (mCons (mVar 10) (mCons (mVar 11) mNil))) (mCons (mTup 1 (mCons (mVar 11) (mCons (mVar 10) mNil))) mNil)))))
    (sSeq (sSet 1 13 (mCall 1 [false, false, false] TL.f_commute (mCons (mVar 4) (mCons (mVar 10) (mCons (mVar 11) mNil)))))
    (sSeq (sIf (mOr (mB (mOp2 gNe (mVar 13) (mVar 12))) (mOr (mNot (mTru (mIs "bool" (mVar 13)))) (mB (mOp2 gNe (mCall 1 [false, false, false] TL.f_commute (mCons (mVar 4) (mCons (mVar 11) (mCons (mVar 10) mNil)))) (mVar 12)))))
    (sRet 1 (mK (.bool false)))
    sNext)
    (sIf (mB (mOp2 gIsNotB (mCall 1 [false, false, false] TL.f_commute (mCons (mVar 4) (mCons (mVar 10) (mCons (mVar 10) mNil)))) (mK (.bool true))))
    (sRet 1 (mK (.bool false)))
    sNext)))))))))))))))))
    (sSeq (sIf (mOr (mB (mOp2 gNe (mCall 1 [false, false] TL.f_needless (mCons (mK (.int 3)) (mCons (mTup 1 (mCons (mTup 1 (mCons (mK (.str "remove")) (mCons (mTup 1 (mCons (mK (.int 1)) mNil)) mNil))) (mCons (mTup 1 (mCons (mK (.str "add")) (mCons (mTup 1 (mCons (mK (.int 2)) mNil)) mNil))) (mCons (mTup 1 (mCons (mK (.str "remove")) (mCons (mTup 1 (mCons (mK (.int 1)) (mCons (mK (.int 2)) mNil))) mNil))) mNil)))) mNil))) (mLst 1 (mCons (mK (.int 0)) (mCons (mK (.int 1)) mNil))))) (mB (mOp2 gNe (mCall 1 [false, false] TL.f_needless (mCons (mK (.int 2)) (mCons (mTup 1 mNil) mNil))) (mLst 1 mNil))))
    (sRet 1 (mK (.bool false)))
    sNext)
    (sRet 1 (mOp2 gEq (mLc 1 [14] (mSeq 1 (mTup 1 (mCons (mK (.str "add")) (mCons (mK (.str "remove")) mNil)))) (tName 1 14) mYes (mCall 1 [false, false, false] TL.f_commute (mCons (mK (.int 3)) (mCons (mTup 1 (mCons (mK (.str "add")) (mCons (mTup 1 (mCons (mK (.int 1)) mNil)) mNil))) (mCons (mTup 1 (mCons (mVar 14) (mCons (mTup 1 (mCons (mK (.int 2)) mNil)) mNil))) mNil))))) (mLst 1 (mCons (mK (.bool false)) (mCons (mK (.bool true)) mNil)))))))
def f_law_k16 : Fn := fnOf [false] 16 m_law_k16
def q_law_k17_1 : MS := (sSet 1 2 (mCall 1 [false, false] TL.f__law_bag (mCons (mVar 0) (mCons (mVar 1) mNil))))
def q_law_k17_2 : MS := (sUnp 1 (tTuple 2 (tsCons (tName 1 4) (tsCons (tName 1 5) tsNil))) (mCall 1 [true, false] TL.f__law_state (mCons (mVar 2) (mCons (mK (.int 4)) mNil))))
def q_law_k17_3 : MS := (sSetI 1 6 (mCall 1 [false, false] TL.f__law_after (mCons (mVar 5) (mCons (mCall 1 [true, false] TL.f__law_step (mCons (mVar 2) (mCons (mVar 4) mNil))) mNil))))
def q_law_k17_4 : MS := (sSetI 1 6 (mCall 1 [true, false] TL.f__law_list (mCons (mVar 2) (mCons (mVar 4) mNil))))
def q_law_k17_5 : MS := (sIf (mB (mOp2 gEq (mCall 1 [true, false] TL.f__law_take (mCons (mVar 2) (mCons (mK (.int 4)) mNil))) (mK (.int 0))))
    TL.q_law_k17_4
    sNext)
def q_law_k17_6 : MS := (sPar 1 [7, 8] (mCons (mTup 1 (mCons (mVar 4) (mCons (mVar 5) mNil))) (mCons (mTup 1 (mCons (mVar 4) (mCons (mVar 6) mNil))) mNil)))
def q_law_k17_7 : MS := (sSetI 1 9 (mLc 1 [12] (mSeq 1 (mCall 1 [false] TL.f__law_actions (mCons (mVar 4) mNil))) (tName 1 12) (mB (mOp2 gEq (mCall 1 [false, false] TL.f__law_after (mCons (mVar 5) (mCons (mVar 12) mNil))) (mVar 6))) (mVar 12)))
def q_law_k17_8 : MS := (sRet 1 (mK (.bool false)))
def q_law_k17_9 : MS := (sIf (mB (mOp2 gNe (mCall 1 [false, false] TL.f_count_operations (mCons (mVar 7) (mCons (mVar 8) mNil))) (mCB gLen (mCons (mVar 9) mNil))))
    TL.q_law_k17_8
    sNext)
def q_law_k17_10 : MS := (sSetI 1 10 (mCB gSortedG (mCons (mLc 1 [12] (mSeq 1 (mVar 9)) (tName 1 12) mYes (mTup 1 (mCons (mCB gLen (mCons (mOp2 gIx (mVar 12) (mK (.int 1))) mNil)) (mCons (mVar 12) mNil)))) mNil)))
def q_law_k17_11 : MS := (sSetI 1 11 (mIf (mAnd (mB (mOp2 gNe (mVar 10) (mLst 1 mNil))) (mB (mOp2 gNe (mVar 5) (mVar 6)))) (mOp2 gIx (mOp2 gIx (mVar 10) (mK (.int 0))) (mK (.int 1))) (mK .none)))
def q_law_k17_12 : MS := (sRet 1 (mK (.bool false)))
def q_law_k17_13 : MS := (sIf (mB (mOp2 gNe (mCall 1 [false, false] TL.f_single_operation (mCons (mVar 7) (mCons (mVar 8) mNil))) (mVar 11)))
    TL.q_law_k17_12
    sNext)
def b_law_k17_14 : MS := (sSeq TL.q_law_k17_2
    (sSeq TL.q_law_k17_3
    (sSeq TL.q_law_k17_5
    (sSeq TL.q_law_k17_6
    (sSeq TL.q_law_k17_7
    (sSeq TL.q_law_k17_9
    (sSeq TL.q_law_k17_10
    (sSeq TL.q_law_k17_11
    TL.q_law_k17_13))))))))
def q_law_k17_15 : MS := (sFor (mRng1 (mK (.int 4))) (tName 1 3)
    TL.b_law_k17_14)
def q_law_k17_16 : MS := (sUnp 1 (tTuple 2 (tsCons (tName 1 4) (tsCons (tName 1 5) tsNil))) (mCall 1 [true, false] TL.f__law_state (mCons (mVar 2) (mCons (mK (.int 16)) mNil))))
def q_law_k17_17 : MS := (sSetI 1 12 (mCall 1 [true, false] TL.f__law_step (mCons (mVar 2) (mCons (mVar 4) mNil))))
def q_law_k17_18 : MS := (sSetI 1 6 (mCall 1 [false, false] TL.f__law_after (mCons (mVar 5) (mCons (mVar 12) mNil))))
def q_law_k17_19 : MS := (sSetI 1 13 (mCall 1 [false, false] TL.f_single_operation (mCons (mTup 1 (mCons (mVar 4) (mCons (mVar 5) mNil))) (mCons (mTup 1 (mCons (mVar 4) (mCons (mVar 6) mNil))) mNil))))
def q_law_k17_20 : MS := (sSetI 1 14 (mLc 1 [16] (mSeq 1 (mOp2 gIx (mVar 12) (mK (.int 1)))) (tName 1 16) (mB (mOp2 gNe (mOp2 gIn (mVar 16) (mVar 5)) (mOp2 gIn (mVar 16) (mVar 6)))) (mVar 16)))
def q_law_k17_21 : MS := (sRet 1 (mK (.bool false)))
def q_law_k17_22 : MS := (sIf (mB (mOp2 gNe (mVar 13) (mTup 1 (mCons (mOp2 gIx (mVar 12) (mK (.int 0))) (mCons (mCB gTuple (mCons (mVar 14) mNil)) mNil)))))
    TL.q_law_k17_21
    sNext)
def q_law_k17_23 : MS := (sSetI 1 15 (mK (.int 1)))
def q_law_k17_24 : MS := (sSetI 1 15 (mOp2 gMul (mK (.int 2)) (mVar 15)))
def q_law_k17_25 : MS := (sFor (mRng1 (mIf (mB (mOp2 gEq (mOp2 gIx (mVar 12) (mK (.int 0))) (mK (.str "add")))) (mCB gLen (mCons (mVar 5) mNil)) (mOp2 gSub (mVar 4) (mCB gLen (mCons (mVar 5) mNil))))) (tName 1 3)
    TL.q_law_k17_24)
def q_law_k17_26 : MS := (sRet 1 (mK (.bool false)))
def q_law_k17_27 : MS := (sIf (mB (mOp2 gNe (mCall 1 [false, false] TL.f_count_operations (mCons (mTup 1 (mCons (mVar 4) (mCons (mVar 5) mNil))) (mCons (mTup 1 (mCons (mVar 4) (mCons (mVar 6) mNil))) mNil))) (mVar 15)))
    TL.q_law_k17_26
    sNext)
def b_law_k17_28 : MS := (sSeq TL.q_law_k17_20
    (sSeq TL.q_law_k17_22
    (sSeq TL.q_law_k17_23
    (sSeq TL.q_law_k17_25
    TL.q_law_k17_27))))
def q_law_k17_29 : MS := (sRet 1 (mK (.bool false)))
def q_law_k17_30 : MS := (sIf (mB (mOp2 gIsNot (mVar 13) (mK .none)))
    TL.q_law_k17_29
    sNext)
def q_law_k17_31 : MS := (sIf (mB (mOp2 gNe (mVar 6) (mVar 5)))
    TL.b_law_k17_28
    TL.q_law_k17_30)
def b_law_k17_32 : MS := (sSeq TL.q_law_k17_1
    (sSeq TL.q_law_k17_15
    (sSeq TL.q_law_k17_16
    (sSeq TL.q_law_k17_17
    (sSeq TL.q_law_k17_18
    (sSeq TL.q_law_k17_19
    TL.q_law_k17_31))))))
def q_law_k17_33 : MS := (sFor (mRng1 (mOp2 gAdd (mCB gMin (mCons (mCB gLen (mCons (mVar 0) mNil)) (mCons (mK (.int 5)) mNil))) (mK (.int 2)))) (tName 1 1)
    TL.b_law_k17_32)
def q_law_k17_34 : MS := (sRet 1 (mK (.bool false)))
def q_law_k17_35 : MS := (sIf (mB (mOp2 gNe (mCall 1 [false, false] TL.f_single_operation (mCons (mTup 1 (mCons (mK (.int 3)) (mCons (mTup 1 (mCons (mK (.int 2)) mNil)) mNil))) (mCons (mTup 1 (mCons (mK (.int 3)) (mCons (mTup 1 (mCons (mK (.int 2)) (mCons (mK (.int 1)) (mCons (mK (.int 3)) mNil)))) mNil))) mNil))) (mTup 1 (mCons (mK (.str "add")) (mCons (mTup 1 (mCons (mK (.int 1)) (mCons (mK (.int 3)) mNil))) mNil)))))
    TL.q_law_k17_34
    sNext)
def q_law_k17_36 : MS := (sRet 1 (mOp2 gEq (mLst 1 (mCons (mCall 1 [false, false] TL.f_count_operations (mCons (mTup 1 (mCons (mK (.int 3)) (mCons (mTup 1 (mCons (mK (.int 2)) mNil)) mNil))) (mCons (mTup 1 (mCons (mK (.int 3)) (mCons (mTup 1 (mCons (mK (.int 2)) (mCons (mK (.int 1)) (mCons (mK (.int 3)) mNil)))) mNil))) mNil))) (mCons (mCall 1 [false, false] TL.f_count_operations (mCons (mTup 1 (mCons (mK (.int 3)) (mCons (mTup 1 (mCons (mK (.int 2)) mNil)) mNil))) (mCons (mTup 1 (mCons (mK (.int 3)) (mCons (mTup 1 (mCons (mK (.int 2)) mNil)) mNil))) mNil))) mNil))) (mLst 1 (mCons (mK (.int 2)) (mCons (mK (.int 4)) mNil)))))
def b_law_k17_37 : MS := (sSeq TL.q_law_k17_33
    (sSeq TL.q_law_k17_35
    TL.q_law_k17_36))
def m_law_k17 : MS := TL.b_law_k17_37
def f_law_k17 : Fn := fnOf [false] 17 m_law_k17
def q_missing_k18_1 : MS := (sDrop (mCall 4 [false] TL.f_require_state (mCons (mVar 0) mNil)))
def q_missing_k18_2 : MS := (sDrop (mCall 4 [false, false, false] TL.f_require_script (mCons (mOp2 gIx (mVar 0) (mK (.int 0))) (mCons (mVar 1) (mCons (mOp2 gSub (mK (.int 40)) (mK (.int 1))) mNil)))))
def q_missing_k18_3 : MS := (sRaise "InvalidIndex")
def q_missing_k18_4 : MS := (sIf (mNot (mTru (mCall 4 [false, false, false] TL.f_is_integer (mCons (mVar 2) (mCons (mK (.int 0)) (mCons (mCB gLen (mCons (mVar 1) mNil)) mNil))))))
    TL.q_missing_k18_3
    sNext)
def q_missing_k18_5 : MS := (sRaise "InvalidState")
def q_missing_k18_6 : MS := (sIf (mOr (mNot (mTru (mCall 4 [false] TL.f_is_state (mCons (mVar 3) mNil)))) (mB (mOp2 gNe (mOp2 gIx (mVar 3) (mK (.int 0))) (mOp2 gIx (mVar 0) (mK (.int 0))))))
    TL.q_missing_k18_5
    sNext)
def q_missing_k18_7 : MS := (sRaise "TooLarge")
def q_missing_k18_8 : MS := (sIf (mB (mOp2 gGt (mOp2 gIx (mVar 0) (mK (.int 0))) (mK (.int 6))))
    TL.q_missing_k18_7
    sNext)
def q_missing_k18_9 : MS := (sPar 4 [4, 5] (mCons (mCall 4 [false, false] TL.f_last_of (mCons (mOp2 gIx (mVar 0) (mK (.int 1))) (mCons (mSlice (mVar 1) mNoPart (mPart (mVar 2))) mNil))) (mCons (mLst 4 mNil) mNil)))
def q_missing_k18_10 : MS := (sDrop (mAppend 4 5 (mVar 6)))
def q_missing_k18_11 : MS := (sIf (mB (mOp2 gEq (mCall 4 [false, false] TL.f_last_of (mCons (mCall 4 [false, false] TL.f_after (mCons (mVar 4) (mCons (mVar 6) mNil))) (mCons (mSlice (mVar 1) (mPart (mVar 2)) mNoPart) mNil))) (mOp2 gIx (mVar 3) (mK (.int 1)))))
    TL.q_missing_k18_10
    sNext)
def q_missing_k18_12 : MS := (sFor (mSeq 4 (mCall 4 [false] TL.f_all_operations (mCons (mOp2 gIx (mVar 0) (mK (.int 0))) mNil))) (tName 4 6)
    TL.q_missing_k18_11)
def q_missing_k18_13 : MS := (sRet 4 (mVar 5))
def b_missing_k18_14 : MS := (sSeq TL.q_missing_k18_1
    (sSeq TL.q_missing_k18_2
    (sSeq TL.q_missing_k18_4
    (sSeq TL.q_missing_k18_6
    (sSeq TL.q_missing_k18_8
    (sSeq TL.q_missing_k18_9
    (sSeq TL.q_missing_k18_12
    TL.q_missing_k18_13)))))))
def m_missing_k18 : MS := TL.b_missing_k18_14
def f_missing_k18 : Fn := fnOf [false, false, false, false] 7 m_missing_k18
def q_law_k18_1 : MS := (sSet 1 2 (mCall 1 [false, false] TL.f__law_bag (mCons (mVar 0) (mCons (mVar 1) mNil))))
def q_law_k18_2 : MS := (sUnp 1 (tTuple 2 (tsCons (tName 1 4) (tsCons (tName 1 5) tsNil))) (mCall 1 [true, false] TL.f__law_state (mCons (mVar 2) (mCons (mK (.int 5)) mNil))))
def q_law_k18_3 : MS := (sSetI 1 6 (mCB gTuple (mCons (mLc 1 [14] (mRng1 (mOp2 gAdd (mK (.int 1)) (mCall 1 [true, false] TL.f__law_take (mCons (mVar 2) (mCons (mK (.int 4)) mNil))))) (tName 1 14) mYes (mCall 1 [true, false] TL.f__law_step (mCons (mVar 2) (mCons (mVar 4) mNil)))) mNil)))
def q_law_k18_4 : MS := (sPar 1 [7, 8] (mCons (mCall 1 [true, false] TL.f__law_take (mCons (mVar 2) (mCons (mCB gLen (mCons (mVar 6) mNil)) mNil))) (mCons (mCall 1 [false, false] TL.f__law_last (mCons (mVar 5) (mCons (mVar 6) mNil))) mNil)))
def q_law_k18_5 : MS := (sPar 1 [9, 10] (mCons (mOp2 gAdd (mSlice (mVar 6) mNoPart (mPart (mVar 7))) (mSlice (mVar 6) (mPart (mOp2 gAdd (mVar 7) (mK (.int 1)))) mNoPart)) (mCons (mOp2 gEq (mCall 1 [true, false] TL.f__law_take (mCons (mVar 2) (mCons (mK (.int 5)) mNil))) (mK (.int 0))) mNil)))
def q_law_k18_6 : MS := (sSetI 1 8 (mCall 1 [true, false] TL.f__law_list (mCons (mVar 2) (mCons (mVar 4) mNil))))
def q_law_k18_7 : MS := (sIf (mTru (mVar 10))
    TL.q_law_k18_6
    sNext)
def q_law_k18_8 : MS := (sSet 1 11 (mLst 1 mNil))
def q_law_k18_9 : MS := (sDrop (mAppend 1 11 (mVar 12)))
def q_law_k18_10 : MS := (sIf (mB (mOp2 gEq (mCall 1 [false, false] TL.f__law_last (mCons (mVar 5) (mCons (mOp2 gAdd (mOp2 gAdd (mSlice (mVar 9) mNoPart (mPart (mVar 7))) (mTup 1 (mCons (mVar 12) mNil))) (mSlice (mVar 9) (mPart (mVar 7)) mNoPart)) mNil))) (mVar 8)))
    TL.q_law_k18_9
    sNext)
def q_law_k18_11 : MS := (sFor (mSeq 1 (mCall 1 [false] TL.f__law_actions (mCons (mVar 4) mNil))) (tName 1 12)
    TL.q_law_k18_10)
def q_law_k18_12 : MS := (sSet 1 13 (mCall 1 [false, false, false, false] TL.f_missing_k18 (mCons (mTup 1 (mCons (mVar 4) (mCons (mVar 5) mNil))) (mCons (mVar 9) (mCons (mVar 7) (mCons (mTup 1 (mCons (mVar 4) (mCons (mVar 8) mNil))) mNil))))))
def q_law_k18_13 : MS := (sRet 1 (mK (.bool false)))
def q_law_k18_14 : MS := (sIf (mOr (mB (mOp2 gNe (mVar 13) (mVar 11))) (mAnd (mNot (mTru (mVar 10))) (mB (mOp2 gNotIn (mOp2 gIx (mVar 6) (mVar 7)) (mVar 11)))))
    TL.q_law_k18_13
    sNext)
def q_law_k18_15 : MS := (sDrop (mAppend 1 13 (mK .none)))
def q_law_k18_16 : MS := (sRet 1 (mK (.bool false)))
def q_law_k18_17 : MS := (sIf (mB (mOp2 gNe (mCall 1 [false, false, false, false] TL.f_missing_k18 (mCons (mTup 1 (mCons (mVar 4) (mCons (mVar 5) mNil))) (mCons (mVar 9) (mCons (mVar 7) (mCons (mTup 1 (mCons (mVar 4) (mCons (mVar 8) mNil))) mNil))))) (mVar 11)))
    TL.q_law_k18_16
    sNext)
def b_law_k18_18 : MS := (sSeq TL.q_law_k18_2
    (sSeq TL.q_law_k18_3
    (sSeq TL.q_law_k18_4
    (sSeq TL.q_law_k18_5
    (sSeq TL.q_law_k18_7
    (sSeq TL.q_law_k18_8
    (sSeq TL.q_law_k18_11
    (sSeq TL.q_law_k18_12
    (sSeq TL.q_law_k18_14
    (sSeq TL.q_law_k18_15
    TL.q_law_k18_17))))))))))
def q_law_k18_19 : MS := (sFor (mRng1 (mK (.int 4))) (tName 1 3)
    TL.b_law_k18_18)
def b_law_k18_20 : MS := (sSeq TL.q_law_k18_1
    TL.q_law_k18_19)
def q_law_k18_21 : MS := (sFor (mRng1 (mOp2 gAdd (mCB gMin (mCons (mCB gLen (mCons (mVar 0) mNil)) (mCons (mK (.int 4)) mNil))) (mK (.int 2)))) (tName 1 1)
    TL.b_law_k18_20)
def q_law_k18_22 : MS := (sRet 1 (mOp2 gEq (mCall 1 [false, false, false, false] TL.f_missing_k18 (mCons (mTup 1 (mCons (mK (.int 3)) (mCons (mTup 1 mNil) mNil))) (mCons (mTup 1 (mCons (mTup 1 (mCons (mK (.str "add")) (mCons (mTup 1 (mCons (mK (.int 3)) mNil)) mNil))) mNil)) (mCons (mK (.int 0)) (mCons (mTup 1 (mCons (mK (.int 3)) (mCons (mTup 1 (mCons (mK (.int 2)) (mCons (mK (.int 3)) mNil))) mNil))) mNil))))) (mLst 1 (mCons (mTup 1 (mCons (mK (.str "add")) (mCons (mTup 1 (mCons (mK (.int 2)) mNil)) mNil))) (mCons (mTup 1 (mCons (mK (.str "add")) (mCons (mTup 1 (mCons (mK (.int 2)) (mCons (mK (.int 3)) mNil))) mNil))) mNil)))))
def b_law_k18_23 : MS := (sSeq TL.q_law_k18_21
    TL.q_law_k18_22)
def m_law_k18 : MS := TL.b_law_k18_23
def f_law_k18 : Fn := fnOf [false] 15 m_law_k18
def q__wall_1 : MS := sNext
def q__wall_2 : MS := (whileS (mTru (mK (.bool true)))
    TL.q__wall_1 1000)
def m__wall : MS := TL.q__wall_2
def f__wall : Fn := fnOf [false] 1 m__wall
def q__law_action_1 : MS := (sSetI 2 2 (mCall 2 [true, false] TL.f__law_take (mCons (mVar 0) (mCons (mK (.int 10)) mNil))))
def q__law_action_2 : MS := (sPar 2 [3, 4] (mCons (mRgL rfL (mK (.int 1)) (mOp2 gAdd (mVar 1) (mK (.int 1)))) (mCons (mTup 2 mNil) mNil)))
def q__law_action_3 : MS := (sSetI 2 4 (mOp2 gAdd (mVar 4) (mTup 2 (mCons (mPopAt 3 (mCall 2 [true, false] TL.f__law_take (mCons (mVar 0) (mCons (mCB gLen (mCons (mVar 3) mNil)) mNil)))) mNil))))
def q__law_action_4 : MS := (sFor (mRng1 (mOp2 gAdd (mK (.int 1)) (mCall 2 [true, false] TL.f__law_take (mCons (mVar 0) (mCons (mCB gMin (mCons (mK (.int 3)) (mCons (mVar 1) mNil))) mNil))))) (tName 2 5)
    TL.q__law_action_3)
def q__law_action_5 : MS := (sRet 2 (mTup 2 (mCons (mCall 2 [true, false] TL.f__law_of (mCons (mVar 0) (mCons (mLst 2 (mCons (mK (.str "add")) (mCons (mK (.str "add")) (mCons (mK (.str "remove")) mNil)))) mNil))) (mCons (mVar 4) mNil))))
def b__law_action_6 : MS := (sSeq TL.q__law_action_2
    (sSeq TL.q__law_action_4
    TL.q__law_action_5))
def q__law_action_7 : MS := (sIf (mB (mOp2 gLt (mVar 2) (mK (.int 5))))
    TL.b__law_action_6
    sNext)
def q__law_action_8 : MS := (sSetI 2 6 (mLst 2 (mCons (mTup 2 mNil) (mCons (mTup 2 (mCons (mK (.int 0)) mNil)) (mCons (mTup 2 (mCons (mOp2 gAdd (mVar 1) (mK (.int 1))) mNil)) (mCons (mTup 2 (mCons (mK (.int 1)) (mCons (mK (.int 1)) mNil))) (mCons (mTup 2 (mCons (mK .none) mNil)) (mCons (mTup 2 (mCons (mK (.bool true)) mNil)) (mCons (mTup 2 (mCons (mK (.str "1")) mNil)) (mCons (mTup 2 (mCons (mTup 2 (mCons (mK (.int 1)) mNil)) mNil)) mNil))))))))))
def q__law_action_9 : MS := (sRet 2 (mTup 2 (mCons (mCall 2 [true, false] TL.f__law_of (mCons (mVar 0) (mCons (mLst 2 (mCons (mK (.str "add")) (mCons (mK (.str "remove")) mNil))) mNil))) (mCons (mCall 2 [true, false] TL.f__law_of (mCons (mVar 0) (mCons (mVar 6) mNil))) mNil))))
def b__law_action_10 : MS := (sSeq TL.q__law_action_8
    TL.q__law_action_9)
def q__law_action_11 : MS := (sIf (mB (mOp2 gEq (mVar 2) (mK (.int 5))))
    TL.b__law_action_10
    sNext)
def q__law_action_12 : MS := (sRet 2 (mTup 2 (mCons (mK (.str "undo")) mNil)))
def q__law_action_13 : MS := (sIf (mB (mOp2 gLt (mVar 2) (mK (.int 8))))
    TL.q__law_action_12
    sNext)
def q__law_action_14 : MS := (sRet 2 (mTup 2 (mCons (mK (.str "steps")) (mCons (mCall 2 [true, false] TL.f__law_of (mCons (mVar 0) (mCons (mLst 2 (mCons (mCall 2 [true, false] TL.f__law_list (mCons (mVar 0) (mCons (mVar 1) mNil))) (mCons (mCall 2 [true, false] TL.f__law_list (mCons (mVar 0) (mCons (mVar 1) mNil))) (mCons (mTup 2 (mCons (mK (.int 0)) mNil)) (mCons (mK .none) (mCons (mTup 2 (mCons (mK (.int 1)) (mCons (mK (.int 1)) mNil))) mNil)))))) mNil))) mNil))))
def b__law_action_15 : MS := (sSeq TL.q__law_action_1
    (sSeq TL.q__law_action_7
    (sSeq TL.q__law_action_11
    (sSeq TL.q__law_action_13
    TL.q__law_action_14))))
def m__law_action : MS := TL.b__law_action_15
def f__law_action : Fn := fnOf [true, false] 7 m__law_action
def q__law_good_k19_1 : MS := (sRet 2 (mK (.bool false)))
def q__law_good_k19_2 : MS := (sIf (mOr (mB (mOp2 gEq (mVar 1) (mTup 2 mNil))) (mB (mOp2 gNe (mSetI (fun ns => .im (.int ((dedupI ns).length : Nat))) (mVar 1)) (mCB gLen (mCons (mVar 1) mNil)))))
    TL.q__law_good_k19_1
    sNext)
def q__law_good_k19_3 : MS := (sRet 2 (mK (.bool false)))
def q__law_good_k19_4 : MS := (sIf (mOr (mNot (mTru (mIs "int" (mVar 2)))) (mOr (mTru (mIs "bool" (mVar 2))) (mNot (mB (mChain gLe gLe (mK (.int 1)) (mVar 2) (mVar 0))))))
    TL.q__law_good_k19_3
    sNext)
def q__law_good_k19_5 : MS := (sFor (mSeq 2 (mVar 1)) (tName 2 2)
    TL.q__law_good_k19_4)
def q__law_good_k19_6 : MS := (sRet 2 (mK (.bool true)))
def b__law_good_k19_7 : MS := (sSeq TL.q__law_good_k19_2
    (sSeq TL.q__law_good_k19_5
    TL.q__law_good_k19_6))
def m__law_good_k19 : MS := TL.b__law_good_k19_7
def f__law_good_k19 : Fn := fnOf [false, false] 3 m__law_good_k19
def q__law_due_1 : MS := (sRet 4 (mK (.str "undo")))
def q__law_due_2 : MS := (sIf (mB (mOp2 gEq (mVar 1) (mLst 4 mNil)))
    TL.q__law_due_1
    sNext)
def q__law_due_3 : MS := (sDrop (mPop 1))
def q__law_due_4 : MS := (sDrop (mPop 2))
def q__law_due_5 : MS := (sRet 4 (mK .none))
def b__law_due_6 : MS := (sSeq TL.q__law_due_2
    (sSeq TL.q__law_due_3
    (sSeq TL.q__law_due_4
    TL.q__law_due_5)))
def q__law_due_7 : MS := (sIf (mB (mOp2 gEq (mOp2 gIx (mVar 3) (mK (.int 0))) (mK (.str "undo"))))
    TL.b__law_due_6
    sNext)
def q__law_due_8 : MS := (sSetI 4 4 (mOrV (mOp2 gIs (mOp2 gIx (mVar 3) (mK (.int 1))) (mK .none)) (mOp2 gIn (mOp2 gIx (mVar 3) (mK (.int 1))) (mLst 4 (mCons (mTup 4 (mCons (mK (.int 0)) mNil)) (mCons (mTup 4 (mCons (mK (.int 1)) (mCons (mK (.int 1)) mNil))) mNil))))))
def q__law_due_9 : MS := (sRet 4 (mIf (mTru (mVar 4)) (mK (.str "state")) (mCall 4 [false, false] TL.f__law_steps (mCons (mOp2 gIx (mVar 2) (mOp1 gNeg (mK (.int 1)))) (mCons (mOp2 gIx (mVar 3) (mK (.int 1))) mNil)))))
def b__law_due_10 : MS := (sSeq TL.q__law_due_8
    TL.q__law_due_9)
def q__law_due_11 : MS := (sIf (mB (mOp2 gEq (mOp2 gIx (mVar 3) (mK (.int 0))) (mK (.str "steps"))))
    TL.b__law_due_10
    sNext)
def q__law_due_12 : MS := (sRet 4 (mK (.str "operation")))
def q__law_due_13 : MS := (sIf (mNot (mTru (mCall 4 [false, false] TL.f__law_good_k19 (mCons (mVar 0) (mCons (mOp2 gIx (mVar 3) (mK (.int 1))) mNil)))))
    TL.q__law_due_12
    sNext)
def q__law_due_14 : MS := (sSetI 4 5 (mTup 4 (mCons (mOp2 gIx (mVar 3) (mK (.int 0))) (mCons (mCB gTuple (mCons (mCB gSorted (mCons (mOp2 gIx (mVar 3) (mK (.int 1))) mNil)) mNil)) mNil))))
def q__law_due_15 : MS := (sDrop (mAppend 4 1 (mVar 5)))
def q__law_due_16 : MS := (sDrop (mAppend 4 2 (mCall 4 [false, false] TL.f__law_after (mCons (mOp2 gIx (mVar 2) (mOp1 gNeg (mK (.int 1)))) (mCons (mVar 5) mNil)))))
def q__law_due_17 : MS := (sRet 4 (mCB gAbs (mCons (mOp2 gSub (mCB gLen (mCons (mOp2 gIx (mVar 2) (mOp1 gNeg (mK (.int 1)))) mNil)) (mCB gLen (mCons (mOp2 gIx (mVar 2) (mOp1 gNeg (mK (.int 2)))) mNil))) mNil)))
def b__law_due_18 : MS := (sSeq TL.q__law_due_7
    (sSeq TL.q__law_due_11
    (sSeq TL.q__law_due_13
    (sSeq TL.q__law_due_14
    (sSeq TL.q__law_due_15
    (sSeq TL.q__law_due_16
    TL.q__law_due_17))))))
def m__law_due : MS := TL.b__law_due_18
def f__law_due : Fn := fnOf [false, true, true, false] 6 m__law_due
def q__law_places_1 : MS := (sPar 2 [2, 3] (mCons (mLst 2 mNil) (mCons (mK (.int 0)) mNil)))
def q__law_places_2 : MS := (sSetI 2 3 (mOp2 gAdd (mOp2 gAdd (mVar 3) (mK (.int 1))) (mIf (mAnd (mB (mOp2 gEq (mCall 2 [true, false] TL.f__law_take (mCons (mVar 0) (mCons (mK (.int 3)) mNil))) (mK (.int 0)))) (mB (mOp2 gLt (mOp2 gSub (mOp2 gAdd (mVar 3) (mVar 1)) (mVar 4)) (mK (.int 16))))) (mK (.int 1)) (mK (.int 0)))))
def q__law_places_3 : MS := (sDrop (mAppend 2 2 (mVar 3)))
def b__law_places_4 : MS := (sSeq TL.q__law_places_2
    TL.q__law_places_3)
def q__law_places_5 : MS := (sFor (mRng1 (mVar 1)) (tName 2 4)
    TL.b__law_places_4)
def q__law_places_6 : MS := (sRet 2 (mVar 2))
def b__law_places_7 : MS := (sSeq TL.q__law_places_1
    (sSeq TL.q__law_places_5
    TL.q__law_places_6))
def m__law_places : MS := TL.b__law_places_7
def f__law_places : Fn := fnOf [true, false] 5 m__law_places
def q__law_carried_1 : MS := (sRet 2 (mCB gTuple (mCons (mLc 2 [2] (mSeq 2 (mVar 1)) (tName 2 2) mYes (mOp2 gIx (mVar 0) (mOp2 gSub (mVar 2) (mK (.int 1))))) mNil)))
def m__law_carried : MS := TL.q__law_carried_1
def f__law_carried : Fn := fnOf [false, false] 3 m__law_carried
def q__law_third_right_1 : MS := (sRet 0 (mK (.bool false)))
def q__law_third_right_2 : MS := (sIf (mB (mOp2 gIsNot (mCall 0 [false, false, false] TL.f_difference (mCons (mK (.int 3)) (mCons (mTup 0 (mCons (mTup 0 (mCons (mK (.str "add")) (mCons (mTup 0 (mCons (mK (.int 1)) (mCons (mK (.int 2)) mNil))) mNil))) mNil)) (mCons (mTup 0 (mCons (mTup 0 (mCons (mK (.str "add")) (mCons (mTup 0 (mCons (mK (.int 1)) mNil)) mNil))) (mCons (mTup 0 (mCons (mK (.str "add")) (mCons (mTup 0 (mCons (mK (.int 2)) mNil)) mNil))) mNil))) mNil)))) (mK .none)))
    TL.q__law_third_right_1
    sNext)
def q__law_third_right_3 : MS := (sRet 0 (mK (.bool false)))
def q__law_third_right_4 : MS := (sIf (mB (mOp2 gNe (mCall 0 [false, false, false] TL.f_difference (mCons (mK (.int 3)) (mCons (mTup 0 (mCons (mTup 0 (mCons (mK (.str "add")) (mCons (mTup 0 (mCons (mK (.int 1)) (mCons (mK (.int 2)) mNil))) mNil))) mNil)) (mCons (mTup 0 (mCons (mTup 0 (mCons (mK (.str "add")) (mCons (mTup 0 (mCons (mK (.int 2)) mNil)) mNil))) (mCons (mTup 0 (mCons (mK (.str "add")) (mCons (mTup 0 (mCons (mK (.int 1)) mNil)) mNil))) mNil))) mNil)))) (mTup 0 mNil)))
    TL.q__law_third_right_3
    sNext)
def q__law_third_right_5 : MS := (sRet 0 (mK (.bool false)))
def q__law_third_right_6 : MS := (sIf (mB (mOp2 gNe (mCall 0 [false, false] TL.f_needless (mCons (mK (.int 3)) (mCons (mTup 0 (mCons (mTup 0 (mCons (mK (.str "remove")) (mCons (mTup 0 (mCons (mK (.int 1)) mNil)) mNil))) (mCons (mTup 0 (mCons (mK (.str "add")) (mCons (mTup 0 (mCons (mK (.int 2)) mNil)) mNil))) (mCons (mTup 0 (mCons (mK (.str "remove")) (mCons (mTup 0 (mCons (mK (.int 1)) (mCons (mK (.int 2)) mNil))) mNil))) mNil)))) mNil))) (mLst 0 (mCons (mK (.int 0)) (mCons (mK (.int 1)) mNil)))))
    TL.q__law_third_right_5
    sNext)
def q__law_third_right_7 : MS := (sRet 0 (mK (.bool false)))
def q__law_third_right_8 : MS := (sIf (mB (mOp2 gNe (mLst 0 (mCons (mCall 0 [false, false, false] TL.f_commute (mCons (mK (.int 3)) (mCons (mTup 0 (mCons (mK (.str "add")) (mCons (mTup 0 (mCons (mK (.int 1)) mNil)) mNil))) (mCons (mTup 0 (mCons (mK (.str "add")) (mCons (mTup 0 (mCons (mK (.int 2)) mNil)) mNil))) mNil)))) (mCons (mCall 0 [false, false, false] TL.f_commute (mCons (mK (.int 3)) (mCons (mTup 0 (mCons (mK (.str "add")) (mCons (mTup 0 (mCons (mK (.int 1)) mNil)) mNil))) (mCons (mTup 0 (mCons (mK (.str "remove")) (mCons (mTup 0 (mCons (mK (.int 2)) mNil)) mNil))) mNil)))) mNil))) (mLst 0 (mCons (mK (.bool false)) (mCons (mK (.bool true)) mNil)))))
    TL.q__law_third_right_7
    sNext)
def q__law_third_right_9 : MS := (sRet 0 (mK (.bool false)))
def q__law_third_right_10 : MS := (sIf (mB (mOp2 gNe (mCall 0 [false, false] TL.f_single_operation (mCons (mTup 0 (mCons (mK (.int 3)) (mCons (mTup 0 (mCons (mK (.int 2)) mNil)) mNil))) (mCons (mTup 0 (mCons (mK (.int 3)) (mCons (mTup 0 (mCons (mK (.int 2)) (mCons (mK (.int 1)) (mCons (mK (.int 3)) mNil)))) mNil))) mNil))) (mTup 0 (mCons (mK (.str "add")) (mCons (mTup 0 (mCons (mK (.int 1)) (mCons (mK (.int 3)) mNil))) mNil)))))
    TL.q__law_third_right_9
    sNext)
def q__law_third_right_11 : MS := (sRet 0 (mK (.bool false)))
def q__law_third_right_12 : MS := (sIf (mB (mOp2 gNe (mLst 0 (mCons (mCall 0 [false, false] TL.f_count_operations (mCons (mTup 0 (mCons (mK (.int 3)) (mCons (mTup 0 (mCons (mK (.int 2)) mNil)) mNil))) (mCons (mTup 0 (mCons (mK (.int 3)) (mCons (mTup 0 (mCons (mK (.int 2)) (mCons (mK (.int 1)) (mCons (mK (.int 3)) mNil)))) mNil))) mNil))) (mCons (mCall 0 [false, false] TL.f_count_operations (mCons (mTup 0 (mCons (mK (.int 3)) (mCons (mTup 0 (mCons (mK (.int 2)) mNil)) mNil))) (mCons (mTup 0 (mCons (mK (.int 3)) (mCons (mTup 0 (mCons (mK (.int 2)) mNil)) mNil))) mNil))) mNil))) (mLst 0 (mCons (mK (.int 2)) (mCons (mK (.int 4)) mNil)))))
    TL.q__law_third_right_11
    sNext)
def q__law_third_right_13 : MS := (sRet 0 (mOp2 gEq (mCall 0 [false, false, false, false] TL.f_missing_k04 (mCons (mTup 0 (mCons (mK (.int 3)) (mCons (mTup 0 mNil) mNil))) (mCons (mTup 0 (mCons (mTup 0 (mCons (mK (.str "add")) (mCons (mTup 0 (mCons (mK (.int 3)) mNil)) mNil))) mNil)) (mCons (mK (.int 0)) (mCons (mTup 0 (mCons (mK (.int 3)) (mCons (mTup 0 (mCons (mK (.int 2)) (mCons (mK (.int 3)) mNil))) mNil))) mNil))))) (mLst 0 (mCons (mTup 0 (mCons (mK (.str "add")) (mCons (mTup 0 (mCons (mK (.int 2)) mNil)) mNil))) (mCons (mTup 0 (mCons (mK (.str "add")) (mCons (mTup 0 (mCons (mK (.int 2)) (mCons (mK (.int 3)) mNil))) mNil))) mNil)))))
def b__law_third_right_14 : MS := (sSeq TL.q__law_third_right_2
    (sSeq TL.q__law_third_right_4
    (sSeq TL.q__law_third_right_6
    (sSeq TL.q__law_third_right_8
    (sSeq TL.q__law_third_right_10
    (sSeq TL.q__law_third_right_12
    TL.q__law_third_right_13))))))
def m__law_third_right : MS := TL.b__law_third_right_14
def f__law_third_right : Fn := fnOf [] 0 m__law_third_right
end TL

set_option maxRecDepth 100000
namespace K13
open PySem PySem.Spec PyProof.Rows L2 PL
def top (i : Nat) : Stmt := PySem.Challenge.pw_transferlists_k13_whole_lists_at_a_dista.main.body.getD i (.Pass ⟨0, 0, 0, 0⟩)
abbrev s_is_integer : Stmt := top 7
abbrev s_is_size : Stmt := top 8
abbrev s_are_items : Stmt := top 9
abbrev s_is_chosen : Stmt := top 10
abbrev s_is_state : Stmt := top 11
abbrev s_require_state : Stmt := top 12
abbrev s_left_of : Stmt := top 13
abbrev s_runs_of : Stmt := top 14
abbrev s_kept_of : Stmt := top 16
abbrev s_away : Stmt := top 17
abbrev s_require_number : Stmt := top 20
abbrev s_all_lists : Stmt := top 21
abbrev s_count_at : Stmt := top 22
abbrev s__law_bag : Stmt := top 24
abbrev s__law_take : Stmt := top 25
abbrev s__law_of : Stmt := top 26
abbrev s__law_list : Stmt := top 28
abbrev s__law_state : Stmt := top 29
abbrev s__law_after : Stmt := top 31
abbrev s__law_all : Stmt := top 33
abbrev s__law_actions : Stmt := top 34
abbrev s__law_layers : Stmt := top 35
abbrev s_law : Stmt := top 36
structure Txt (K : PySem.W.Frag) (mg : Str → Option Value) : Prop where
  b_all : mg "all" = none
  b_bool : mg "bool" = none
  b_int : mg "int" = none
  b_isinstance : mg "isinstance" = none
  b_len : mg "len" = none
  b_list : mg "list" = none
  b_min : mg "min" = none
  b_range : mg "range" = none
  b_set : mg "set" = none
  b_sorted : mg "sorted" = none
  b_tuple : mg "tuple" = none
  i_LARGEST : HasI mg "LARGEST" 16
  i_SMALL : HasI mg "SMALL" 5
  x_InvalidNumber : HasX K mg "InvalidNumber"
  x_InvalidState : HasX K mg "InvalidState"
  x_TooLarge : HasX K mg "TooLarge"
  d_is_integer : HasF K mg "is_integer" s_is_integer ["value", "low", "high"]
  d_is_size : HasF K mg "is_size" s_is_size ["value"]
  d_are_items : HasF K mg "are_items" s_are_items ["size", "value"]
  d_is_chosen : HasF K mg "is_chosen" s_is_chosen ["size", "value"]
  d_is_state : HasF K mg "is_state" s_is_state ["value"]
  d_require_state : HasF K mg "require_state" s_require_state ["state"]
  d_left_of : HasF K mg "left_of" s_left_of ["size", "chosen"]
  d_runs_of : HasF K mg "runs_of" s_runs_of ["some"]
  d_kept_of : HasF K mg "kept_of" s_kept_of ["chosen", "wished"]
  d_away : HasF K mg "away" s_away ["chosen", "wished"]
  d_require_number : HasF K mg "require_number" s_require_number ["number"]
  d_all_lists : HasF K mg "all_lists" s_all_lists ["size"]
  d_count_at : HasF K mg "count_at" s_count_at ["state", "distance"]
  d__law_bag : HasF K mg "_law_bag" s__law_bag ["script", "k"]
  d__law_take : HasF K mg "_law_take" s__law_take ["bag", "count"]
  d__law_of : HasF K mg "_law_of" s__law_of ["bag", "some"]
  d__law_list : HasF K mg "_law_list" s__law_list ["bag", "size"]
  d__law_state : HasF K mg "_law_state" s__law_state ["bag", "most"]
  d__law_after : HasF K mg "_law_after" s__law_after ["chosen", "action"]
  d__law_all : HasF K mg "_law_all" s__law_all ["size"]
  d__law_actions : HasF K mg "_law_actions" s__law_actions ["size"]
  d__law_layers : HasF K mg "_law_layers" s__law_layers ["size", "chosen"]
  d_law : HasF K mg "law" s_law ["script"]
section
variable {P : Program} {w : World} {K : PySem.W.Frag} {mg : Str → Option Value} {base : Heap}
abbrev N_is_integer : List Str := ["value", "low", "high"]
theorem sc_is_integer : FnScope N_is_integer ["value", "low", "high"] (defScope s_is_integer) := ⟨rfl, rfl, rfl, by decide +kernel, rfl, by decide +kernel, by decide +kernel⟩
theorem ok_is_integer (T : Txt K mg) : Cal P w K mg base "is_integer" ["value", "low", "high"] 1 [false, false, false] TL.f_is_integer :=
  cal (N := N_is_integer) (n := 3) (k := 0) (ms := TL.m_is_integer) T.d_is_integer sc_is_integer rfl rfl (fun f cdv A outer s H E B hr hB => by
    have hnp : B.np ≤ 3 := Nat.le_of_eq hB
    have S := sc_is_integer
    exact (xs1 (xs_ret (xand (xisi T.b_isinstance T.b_int (xv 0) PyProof.Rows.boot_int) (xand (xnot (xisi T.b_isinstance T.b_bool (xv 0) PyProof.Rows.boot_bool)) (xone (xchain ok_le ok_le (xv 1) (xv 0) (xv 2))))) hnp)))
abbrev N_is_size : List Str := ["value"]
theorem sc_is_size : FnScope N_is_size ["value"] (defScope s_is_size) := ⟨rfl, rfl, rfl, by decide +kernel, rfl, by decide +kernel, by decide +kernel⟩
theorem ok_is_size (T : Txt K mg) : Cal P w K mg base "is_size" ["value"] 2 [false] TL.f_is_size := by
    have c_is_integer := ok_is_integer (P := P) (w := w) (base := base) T
    exact cal (N := N_is_size) (n := 1) (k := 1) (ms := TL.m_is_size) T.d_is_size sc_is_size rfl rfl (fun f cdv A outer s H E B hr hB => by
    have hnp : B.np ≤ 1 := Nat.le_of_eq hB
    have S := sc_is_size
    exact (xs1 (xs_ret (xcl c_is_integer hr (by decide) (takes_of rfl rfl rfl rfl) hnp (xa (xv 0) (xa xint (xa (xmi T.i_LARGEST) xa0)))) hnp)))
abbrev N_are_items : List Str := ["size", "value", "item"]
theorem sc_are_items : FnScope N_are_items ["size", "value"] (defScope s_are_items) := ⟨rfl, rfl, rfl, by decide +kernel, rfl, by decide +kernel, by decide +kernel⟩
theorem ok_are_items (T : Txt K mg) : Cal P w K mg base "are_items" ["size", "value"] 2 [false, false] TL.f_are_items := by
    have c_is_integer := ok_is_integer (P := P) (w := w) (base := base) T
    exact cal (N := N_are_items) (n := 3) (k := 1) (ms := TL.m_are_items) T.d_are_items sc_are_items rfl rfl (fun f cdv A outer s H E B hr hB => by
    have hnp : B.np ≤ 2 := Nat.le_of_eq hB
    have S := sc_are_items
    exact (xs1 (xs_ret (xand (xisi T.b_isinstance T.b_tuple (xv 1) PyProof.Rows.boot_tuple) (xone (xcb (ok_all rfl) (by rfl) T.b_all PyProof.Rows.boot_all (xa (xlc (own := [("item", 2)]) rfl S.nd (xi_seq hnp (xv 1)) (blkOk_of (by kernel_rfl)) (fun b => (xg_name hnp S.nd (i := 2))) (fun b => xts0) (fun b => (xcl c_is_integer hr (by decide) takesF hnp (xa (xv 2) (xa xint (xa (xv 0) xa0))))) hnp (by decide) (by decide)) xa0)))) hnp)))
abbrev N_is_chosen : List Str := ["size", "value"]
theorem sc_is_chosen : FnScope N_is_chosen ["size", "value"] (defScope s_is_chosen) := ⟨rfl, rfl, rfl, by decide +kernel, rfl, by decide +kernel, by decide +kernel⟩
theorem ok_is_chosen (T : Txt K mg) : Cal P w K mg base "is_chosen" ["size", "value"] 3 [false, false] TL.f_is_chosen := by
    have c_are_items := ok_are_items (P := P) (w := w) (base := base) T
    exact cal (N := N_is_chosen) (n := 2) (k := 2) (ms := TL.m_is_chosen) T.d_is_chosen sc_is_chosen rfl rfl (fun f cdv A outer s H E B hr hB => by
    have hnp : B.np ≤ 2 := Nat.le_of_eq hB
    have S := sc_is_chosen
    exact (xs1 (xs_ret (xand (xcl c_are_items hr (by decide) (takes_of rfl rfl rfl rfl) hnp (xa (xv 0) (xa (xv 1) xa0))) (xone (xcmp (ok_eq (hu64 hr)) (xlenSet rfl T.b_len T.b_set (xv 1)) (xcb ok_len (by rfl) T.b_len PySem.boot_len (xa (xv 1) xa0))))) hnp)))
abbrev N_is_state : List Str := ["value"]
theorem sc_is_state : FnScope N_is_state ["value"] (defScope s_is_state) := ⟨rfl, rfl, rfl, by decide +kernel, rfl, by decide +kernel, by decide +kernel⟩
theorem ok_is_state (T : Txt K mg) : Cal P w K mg base "is_state" ["value"] 4 [false] TL.f_is_state := by
    have c_is_size := ok_is_size (P := P) (w := w) (base := base) T
    have c_is_chosen := ok_is_chosen (P := P) (w := w) (base := base) T
    exact cal (N := N_is_state) (n := 1) (k := 3) (ms := TL.m_is_state) T.d_is_state sc_is_state rfl rfl (fun f cdv A outer s H E B hr hB => by
    have hnp : B.np ≤ 1 := Nat.le_of_eq hB
    have S := sc_is_state
    exact (xs1 (xs_ret (xand (xisi T.b_isinstance T.b_tuple (xv 0) PyProof.Rows.boot_tuple) (xand (xcmp (ok_eq (hu64 hr)) (xcb ok_len (by rfl) T.b_len PySem.boot_len (xa (xv 0) xa0)) xint) (xand (xcl c_is_size hr (by decide) (takes_of rfl rfl rfl rfl) hnp (xa (xitem (xv 0) xint) xa0)) (xone (xcl c_is_chosen hr (by decide) (takes_of rfl rfl rfl rfl) hnp (xa (xitem (xv 0) xint) (xa (xitem (xv 0) xint) xa0))))))) hnp)))
abbrev N_require_state : List Str := ["state"]
theorem sc_require_state : FnScope N_require_state ["state"] (defScope s_require_state) := ⟨rfl, rfl, rfl, by decide +kernel, rfl, by decide +kernel, by decide +kernel⟩
theorem ok_require_state (T : Txt K mg) : Cal P w K mg base "require_state" ["state"] 5 [false] TL.f_require_state := by
    have c_is_state := ok_is_state (P := P) (w := w) (base := base) T
    exact cal (N := N_require_state) (n := 1) (k := 4) (ms := TL.m_require_state) T.d_require_state sc_require_state rfl rfl (fun f cdv A outer s H E B hr hB => by
    have hnp : B.np ≤ 1 := Nat.le_of_eq hB
    have S := sc_require_state
    exact (xs1 (xs_if (xt_not (xt (xcl c_is_state hr (by decide) (takes_of rfl rfl rfl rfl) hnp (xa (xv 0) xa0))))
    (xs1 (xrs T.x_InvalidState rfl (takes_of rfl rfl rfl rfl)))
    xs0)))
abbrev N_left_of : List Str := ["size", "chosen", "item"]
theorem sc_left_of : FnScope N_left_of ["size", "chosen"] (defScope s_left_of) := ⟨rfl, rfl, rfl, by decide +kernel, rfl, by decide +kernel, by decide +kernel⟩
theorem ok_left_of (T : Txt K mg) : Cal P w K mg base "left_of" ["size", "chosen"] 1 [false, false] TL.f_left_of :=
  cal (N := N_left_of) (n := 3) (k := 0) (ms := TL.m_left_of) T.d_left_of sc_left_of rfl rfl (fun f cdv A outer s H E B hr hB => by
    have hnp : B.np ≤ 2 := Nat.le_of_eq hB
    have S := sc_left_of
    exact (xs1 (xs_ret (xlc (own := [("item", 2)]) rfl S.nd (xi_rng2 T.b_range xint (xop2 ok_add (xv 0) xint)) (blkOk_of (by kernel_rfl)) (fun b => (xg_name hnp S.nd (i := 2))) (fun b => (xts1 (xt_cmp (ok_notIn (hu65 hr)) (xv 2) (xv 1)))) (fun b => (xv 2)) hnp (by decide) (by decide)) hnp)))
abbrev N_runs_of : List Str := ["some", "found", "item"]
theorem sc_runs_of : FnScope N_runs_of ["some"] (defScope s_runs_of) := ⟨rfl, rfl, rfl, by decide +kernel, rfl, by decide +kernel, by decide +kernel⟩
theorem ok_runs_of (T : Txt K mg) : Cal P w K mg base "runs_of" ["some"] 1 [false] TL.f_runs_of :=
  cal (N := N_runs_of) (n := 3) (k := 0) (ms := TL.m_runs_of) T.d_runs_of sc_runs_of rfl rfl (fun f cdv A outer s H E B hr hB => by
    have hnp : B.np ≤ 1 := Nat.le_of_eq hB
    have S := sc_runs_of
    exact (xs (xs_set (i := 1) (xlst xa0 hnp (Many.le .nil (by decide))) hnp S.nd)
    (xs (xs_for (passes_of rfl) rfl (xi_seq hnp (xv 0)) (xg_name hnp S.nd (i := 2))
    (xs1 (xs_if (XW.xt (xw_and (xt (xv 1)) (xw_and1 (xt_cmp (ok_lt (hu0 hr)) (xitem (xitem (xv 1) (xun ok_neg xint)) (xun ok_neg xint)) (xv 2)))))
    (xs1 (xs_augIx (j := 1) ip_iadd (xun ok_neg xint) (xtup (xa (xv 2) xa0) hnp (Many.le (.cons .nil) (by decide)))))
    (xs1 (xs_expr (xappend 1 (xtup (xa (xv 2) xa0) hnp (Many.le (.cons .nil) (by decide))) hnp))))))
    (xs1 (xs_ret (xv 1) hnp)))))
abbrev N_kept_of : List Str := ["chosen", "wished", "found", "item"]
theorem sc_kept_of : FnScope N_kept_of ["chosen", "wished"] (defScope s_kept_of) := ⟨rfl, rfl, rfl, by decide +kernel, rfl, by decide +kernel, by decide +kernel⟩
theorem ok_kept_of (T : Txt K mg) : Cal P w K mg base "kept_of" ["chosen", "wished"] 1 [false, false] TL.f_kept_of :=
  cal (N := N_kept_of) (n := 4) (k := 0) (ms := TL.m_kept_of) T.d_kept_of sc_kept_of rfl rfl (fun f cdv A outer s H E B hr hB => by
    have hnp : B.np ≤ 2 := Nat.le_of_eq hB
    have S := sc_kept_of
    exact (xs (xs_set (i := 2) (xtup xa0 hnp (Many.le .nil (by decide))) hnp S.nd)
    (xs (xs_for (passes_of rfl) rfl (xi_seq hnp (xv 0)) (xg_name hnp S.nd (i := 3))
    (xs1 (xs_if (XW.xt (xw_and (xt_cmp (ok_lt (hu0 hr)) (xcb ok_len (by rfl) T.b_len PySem.boot_len (xa (xv 2) xa0)) (xcb ok_len (by rfl) T.b_len PySem.boot_len (xa (xv 1) xa0))) (xw_and1 (xt_cmp (ok_eq (hu64 hr)) (xitem (xv 1) (xcb ok_len (by rfl) T.b_len PySem.boot_len (xa (xv 2) xa0))) (xv 3)))))
    (xs1 (xs_aug (i := 2) ip_iadd (xtup (xa (xv 3) xa0) hnp (Many.le (.cons .nil) (by decide))) hnp S.nd))
    xs0)))
    (xs1 (xs_ret (xv 2) hnp)))))
abbrev N_away : List Str := ["chosen", "wished", "same"]
theorem sc_away : FnScope N_away ["chosen", "wished"] (defScope s_away) := ⟨rfl, rfl, rfl, by decide +kernel, rfl, by decide +kernel, by decide +kernel⟩
theorem ok_away (T : Txt K mg) : Cal P w K mg base "away" ["chosen", "wished"] 2 [false, false] TL.f_away := by
    have c_runs_of := ok_runs_of (P := P) (w := w) (base := base) T
    have c_kept_of := ok_kept_of (P := P) (w := w) (base := base) T
    exact cal (N := N_away) (n := 3) (k := 1) (ms := TL.m_away) T.d_away sc_away rfl rfl (fun f cdv A outer s H E B hr hB => by
    have hnp : B.np ≤ 2 := Nat.le_of_eq hB
    have S := sc_away
    exact (xs (xs_setI (i := 2) (xcl c_kept_of hr (by decide) (takes_of rfl rfl rfl rfl) hnp (xa (xv 0) (xa (xv 1) xa0))) hnp S.nd)
    (xs1 (xs_ret (xop2 ok_add (xct ok_int (by rfl) T.b_int PyProof.Rows.boot_int (xa (xcmp (ok_ne (hu64 hr)) (xv 2) (xv 0)) xa0)) (xcb ok_len (by rfl) T.b_len PySem.boot_len (xa (xcl c_runs_of hr (by decide) (takes_of rfl rfl rfl rfl) hnp (xa (xslice (xv 1) (xo (xcb ok_len (by rfl) T.b_len PySem.boot_len (xa (xv 2) xa0))) xo0) xa0)) xa0))) hnp))))
abbrev N_require_number : List Str := ["number"]
theorem sc_require_number : FnScope N_require_number ["number"] (defScope s_require_number) := ⟨rfl, rfl, rfl, by decide +kernel, rfl, by decide +kernel, by decide +kernel⟩
theorem ok_require_number (T : Txt K mg) : Cal P w K mg base "require_number" ["number"] 2 [false] TL.f_require_number := by
    have c_is_integer := ok_is_integer (P := P) (w := w) (base := base) T
    exact cal (N := N_require_number) (n := 1) (k := 1) (ms := TL.m_require_number) T.d_require_number sc_require_number rfl rfl (fun f cdv A outer s H E B hr hB => by
    have hnp : B.np ≤ 1 := Nat.le_of_eq hB
    have S := sc_require_number
    exact (xs1 (xs_if (xt_not (xt (xcl c_is_integer hr (by decide) (takes_of rfl rfl rfl rfl) hnp (xa (xv 0) (xa xint (xa (xmi T.i_LARGEST) xa0))))))
    (xs1 (xrs T.x_InvalidNumber rfl (takes_of rfl rfl rfl rfl)))
    xs0)))
abbrev N_all_lists : List Str := ["size", "found", "last", "row", "item"]
theorem sc_all_lists : FnScope N_all_lists ["size"] (defScope s_all_lists) := ⟨rfl, rfl, rfl, by decide +kernel, rfl, by decide +kernel, by decide +kernel⟩
theorem ok_all_lists (T : Txt K mg) : Cal P w K mg base "all_lists" ["size"] 2 [false] TL.f_all_lists := by
    have c_left_of := ok_left_of (P := P) (w := w) (base := base) T
    exact cal (N := N_all_lists) (n := 5) (k := 1) (ms := TL.m_all_lists) T.d_all_lists sc_all_lists rfl rfl (fun f cdv A outer s H E B hr hB => by
    have hnp : B.np ≤ 1 := Nat.le_of_eq hB
    have S := sc_all_lists
    exact (xs (xs_par2 (i := 1) (j := 2) (xlst (xa (xtup xa0 hnp (Many.le .nil (by decide))) xa0) hnp (Many.le (.cons .nil) (by decide))) (xlst (xa (xtup xa0 hnp (Many.le .nil (by decide))) xa0) hnp (Many.le (.cons .nil) (by decide))) hnp rfl S.nd (by decide))
    (xs (xs_while 1000 (passes_of rfl) (xt (xv 2))
    (xs (xs_setLc2 (i := 2) (own := [("row", 3), ("item", 4)]) (vs1 := [4]) rfl S.nd (xi_seq hnp (xv 2)) (blkOk_of (by kernel_rfl)) (fun b => (xg_name hnp S.nd (i := 3))) (fun b => xts0) (fun b => (xi_seq hnp (xcl c_left_of hr (by decide) takesF hnp (xa (xv 0) (xa (xv 3) xa0))))) (fun b => (xg_name hnp S.nd (i := 4))) (fun b => xts0) (fun b => (xop2 ok_add (xv 3) (xtup (xa (xv 4) xa0) hnp (Many.le (.cons .nil) (by decide))))) hnp (by decide) (by decide) (by decide) (by decide) (by rfl))
    (xs1 (xs_ext (i := 1) (xv 2) S.nd))))
    (xs1 (xs_ret (xv 1) hnp)))))
abbrev N_count_at : List Str := ["state", "distance", "some"]
theorem sc_count_at : FnScope N_count_at ["state", "distance"] (defScope s_count_at) := ⟨rfl, rfl, rfl, by decide +kernel, rfl, by decide +kernel, by decide +kernel⟩
theorem ok_count_at (T : Txt K mg) : Cal P w K mg base "count_at" ["state", "distance"] 6 [false, false] TL.f_count_at_k01 := by
    have c_require_state := ok_require_state (P := P) (w := w) (base := base) T
    have c_away := ok_away (P := P) (w := w) (base := base) T
    have c_require_number := ok_require_number (P := P) (w := w) (base := base) T
    have c_all_lists := ok_all_lists (P := P) (w := w) (base := base) T
    exact cal (N := N_count_at) (n := 3) (k := 5) (ms := TL.m_count_at_k01) T.d_count_at sc_count_at rfl rfl (fun f cdv A outer s H E B hr hB => by
    have hnp : B.np ≤ 2 := Nat.le_of_eq hB
    have S := sc_count_at
    exact (xs (xs_expr (xcl c_require_state hr (by decide) (takes_of rfl rfl rfl rfl) hnp (xa (xv 0) xa0)))
    (xs (xs_expr (xcl c_require_number hr (by decide) (takes_of rfl rfl rfl rfl) hnp (xa (xv 1) xa0)))
    (xs (xs_if (xt_cmp ok_gt (xitem (xv 0) xint) (xmi T.i_SMALL))
    (xs1 (xrs T.x_TooLarge rfl (takes_of rfl rfl rfl rfl)))
    xs0)
    (xs1 (xs_ret (xcb ok_len (by rfl) T.b_len PySem.boot_len (xa (xlc (own := [("some", 2)]) rfl S.nd (xi_seq hnp (xcl c_all_lists hr (by decide) (takes_of rfl rfl rfl rfl) hnp (xa (xitem (xv 0) xint) xa0))) (blkOk_of (by kernel_rfl)) (fun b => (xg_name hnp S.nd (i := 2))) (fun b => (xts1 (xt_cmp (ok_eq (hu64 hr)) (xcl c_away hr (by decide) takesF hnp (xa (xitem (xv 0) xint) (xa (xv 2) xa0))) (xv 1)))) (fun b => (xv 2)) hnp (by decide) (by decide)) xa0)) hnp))))))
abbrev N__law_bag : List Str := ["script", "k", "cell", "seed"]
theorem sc__law_bag : FnScope N__law_bag ["script", "k"] (defScope s__law_bag) := ⟨rfl, rfl, rfl, by decide +kernel, rfl, by decide +kernel, by decide +kernel⟩
theorem ok__law_bag (T : Txt K mg) : Cal P w K mg base "_law_bag" ["script", "k"] 1 [false, false] TL.f__law_bag :=
  cal (N := N__law_bag) (n := 4) (k := 0) (ms := TL.m__law_bag) T.d__law_bag sc__law_bag rfl rfl (fun f cdv A outer s H E B hr hB => by
    have hnp : B.np ≤ 2 := Nat.le_of_eq hB
    have S := sc__law_bag
    exact (xs (xs_set (i := 2) xint hnp S.nd)
    (xs (xs_if (xt_cmp (ok_lt (hu0 hr)) (xv 1) (xcb ok_len (by rfl) T.b_len PySem.boot_len (xa (xv 0) xa0)))
    (xs1 (xs_set (i := 2) (xop2 ok_mod (xitem (xv 0) (xv 1)) (xop2 ok_pow xint xint)) hnp S.nd))
    xs0)
    (xs (xs_set (i := 3) (xop2 ok_add xint (xop2 ok_mod (xop2 ok_add (xop2 ok_add (xop2 ok_add (xop2 ok_mul (xop2 ok_mod (xv 2) xint) xint) (xop2 ok_mul (xop2 ok_mul xint (xv 1)) (xv 1))) (xop2 ok_mul xint (xv 1))) xint) xint)) hnp S.nd)
    (xs (xs_if (xt_cmp (ok_lt (hu0 hr)) (xv 2) (xop2 ok_pow xint xint))
    (xs1 (xs_ret (xlst (xa xint (xa (xv 3) xa0)) hnp (Many.le (.cons (.cons .nil)) (by decide))) hnp))
    xs0)
    (xs1 (xs_ret (xlst (xa (xv 2) (xa (xv 3) xa0)) hnp (Many.le (.cons (.cons .nil)) (by decide))) hnp)))))))
abbrev N__law_take : List Str := ["bag", "count", "found"]
theorem sc__law_take : FnScope N__law_take ["bag", "count"] (defScope s__law_take) := ⟨rfl, rfl, rfl, by decide +kernel, rfl, by decide +kernel, by decide +kernel⟩
theorem ok__law_take (T : Txt K mg) : Cal P w K mg base "_law_take" ["bag", "count"] 1 [true, false] TL.f__law_take :=
  cal (N := N__law_take) (n := 3) (k := 0) (ms := TL.m__law_take) T.d__law_take sc__law_take rfl rfl (fun f cdv A outer s H E B hr hB => by
    have hnp : B.np ≤ 2 := Nat.le_of_eq hB
    have S := sc__law_take
    exact (xs (xs_if (xt_cmp ok_gt (xitem (xv 0) xint) xint)
    (xs (xs_set (i := 2) (xop2 ok_mod (xitem (xv 0) xint) (xv 1)) hnp S.nd)
    (xs (xs_setIx (j := 0) (xop2 ok_div (xitem (xv 0) xint) (xv 1)) xint hnp)
    (xs1 (xs_ret (xv 2) hnp))))
    xs0)
    (xs (xs_setIx (j := 0) (xop2 ok_mod (xop2 ok_mul (xitem (xv 0) xint) xint) xint) xint hnp)
    (xs1 (xs_ret (xop2 ok_mod (xop2 ok_div (xop2 ok_mod (xop2 ok_mul (xop2 ok_div (xitem (xv 0) xint) xint) (xop2 ok_add (xop2 ok_mod (xitem (xv 0) xint) xint) xint)) xint) xint) (xv 1)) hnp)))))
abbrev N__law_of : List Str := ["bag", "some"]
theorem sc__law_of : FnScope N__law_of ["bag", "some"] (defScope s__law_of) := ⟨rfl, rfl, rfl, by decide +kernel, rfl, by decide +kernel, by decide +kernel⟩
theorem ok__law_of (T : Txt K mg) : Cal P w K mg base "_law_of" ["bag", "some"] 2 [true, false] TL.f__law_of := by
    have c__law_take := ok__law_take (P := P) (w := w) (base := base) T
    exact cal (N := N__law_of) (n := 2) (k := 1) (ms := TL.m__law_of) T.d__law_of sc__law_of rfl rfl (fun f cdv A outer s H E B hr hB => by
    have hnp : B.np ≤ 2 := Nat.le_of_eq hB
    have S := sc__law_of
    exact (xs1 (xs_ret (xitem (xv 1) (xcl c__law_take hr (by decide) (takes_of rfl rfl rfl rfl) hnp (xa (xv 0) (xa (xcb ok_len (by rfl) T.b_len PySem.boot_len (xa (xv 1) xa0)) xa0)))) hnp)))
abbrev N__law_list : List Str := ["bag", "size", "rest", "found", "turn"]
theorem sc__law_list : FnScope N__law_list ["bag", "size"] (defScope s__law_list) := ⟨rfl, rfl, rfl, by decide +kernel, rfl, by decide +kernel, by decide +kernel⟩
theorem ok__law_list (T : Txt K mg) : Cal P w K mg base "_law_list" ["bag", "size"] 3 [true, false] TL.f__law_list := by
    have c__law_take := ok__law_take (P := P) (w := w) (base := base) T
    have c__law_of := ok__law_of (P := P) (w := w) (base := base) T
    exact cal (N := N__law_list) (n := 5) (k := 2) (ms := TL.m__law_list) T.d__law_list sc__law_list rfl rfl (fun f cdv A outer s H E B hr hB => by
    have hnp : B.np ≤ 2 := Nat.le_of_eq hB
    have S := sc__law_list
    exact (xs (xs_par2 (i := 2) (j := 3) (xlistRg2 rfl T.b_list T.b_range xint (xop2 ok_add (xv 1) xint)) (xtup xa0 hnp (Many.le .nil (by decide))) hnp rfl S.nd (by decide))
    (xs (xs_for (passes_of rfl) rfl (xi_rng1 T.b_range (xcl c__law_take hr (by decide) (takes_of rfl rfl rfl rfl) hnp (xa (xv 0) (xa (xop2 ok_add (xv 1) xint) xa0)))) (xg_name hnp S.nd (i := 4))
    (xs1 (xs_set (i := 3) (xop2 ok_add (xv 3) (xtup (xa (xpopAt 2 (xcl c__law_of hr (by decide) (takes_of rfl rfl rfl rfl) hnp (xa (xv 0) (xa (xlst (xa xint (xa (xcl c__law_take hr (by decide) (takes_of rfl rfl rfl rfl) hnp (xa (xv 0) (xa (xcb ok_len (by rfl) T.b_len PySem.boot_len (xa (xv 2) xa0)) xa0))) xa0)) hnp (Many.le (.cons (.cons .nil)) (by decide))) xa0)))) xa0) hnp (Many.le (.cons .nil) (by decide)))) hnp S.nd)))
    (xs1 (xs_ret (xv 3) hnp)))))
abbrev N__law_state : List Str := ["bag", "most", "size"]
theorem sc__law_state : FnScope N__law_state ["bag", "most"] (defScope s__law_state) := ⟨rfl, rfl, rfl, by decide +kernel, rfl, by decide +kernel, by decide +kernel⟩
theorem ok__law_state (T : Txt K mg) : Cal P w K mg base "_law_state" ["bag", "most"] 4 [true, false] TL.f__law_state := by
    have c__law_take := ok__law_take (P := P) (w := w) (base := base) T
    have c__law_list := ok__law_list (P := P) (w := w) (base := base) T
    exact cal (N := N__law_state) (n := 3) (k := 3) (ms := TL.m__law_state) T.d__law_state sc__law_state rfl rfl (fun f cdv A outer s H E B hr hB => by
    have hnp : B.np ≤ 2 := Nat.le_of_eq hB
    have S := sc__law_state
    exact (xs (xs_set (i := 2) (xop2 ok_add xint (xcl c__law_take hr (by decide) (takes_of rfl rfl rfl rfl) hnp (xa (xv 0) (xa (xv 1) xa0)))) hnp S.nd)
    (xs1 (xs_ret (xtup (xa (xv 2) (xa (xcl c__law_list hr (by decide) (takes_of rfl rfl rfl rfl) hnp (xa (xv 0) (xa (xv 2) xa0))) xa0)) hnp (Many.le (.cons (.cons .nil)) (by decide))) hnp))))
abbrev N__law_after : List Str := ["chosen", "action", "found", "item"]
theorem sc__law_after : FnScope N__law_after ["chosen", "action"] (defScope s__law_after) := ⟨rfl, rfl, rfl, by decide +kernel, rfl, by decide +kernel, by decide +kernel⟩
theorem ok__law_after (T : Txt K mg) : Cal P w K mg base "_law_after" ["chosen", "action"] 1 [false, false] TL.f__law_after :=
  cal (N := N__law_after) (n := 4) (k := 0) (ms := TL.m__law_after) T.d__law_after sc__law_after rfl rfl (fun f cdv A outer s H E B hr hB => by
    have hnp : B.np ≤ 2 := Nat.le_of_eq hB
    have S := sc__law_after
    exact (xs (xs_set (i := 2) (xct ok_list (by rfl) T.b_list PyProof.Rows.boot_list (xa (xv 0) xa0)) hnp S.nd)
    (xs (xs_for (passes_of rfl) rfl (xi_seq hnp (xitem (xv 1) xint)) (xg_name hnp S.nd (i := 3))
    (xs (xs_if (XW.xt (xw_and (xt_cmp (ok_eq (hu64 hr)) (xitem (xv 1) xint) xstr) (xw_and1 (xt_cmp (ok_notIn (hu65 hr)) (xv 3) (xv 2)))))
    (xs1 (xs_expr (xappend 2 (xv 3) hnp)))
    xs0)
    (xs1 (xs_if (XW.xt (xw_and (xt_cmp (ok_eq (hu64 hr)) (xitem (xv 1) xint) xstr) (xw_and1 (xt_cmp (ok_in (hu65 hr)) (xv 3) (xv 2)))))
    (xs1 (xs_expr (xremove 2 (xv 3))))
    xs0))))
    (xs1 (xs_ret (xct ok_tuple (by rfl) T.b_tuple PyProof.Rows.boot_tuple (xa (xv 2) xa0)) hnp)))))
abbrev N__law_all : List Str := ["size", "found", "rows", "turn", "more", "row", "item"]
theorem sc__law_all : FnScope N__law_all ["size"] (defScope s__law_all) := ⟨rfl, rfl, rfl, by decide +kernel, rfl, by decide +kernel, by decide +kernel⟩
theorem ok__law_all (T : Txt K mg) : Cal P w K mg base "_law_all" ["size"] 1 [false] TL.f__law_all :=
  cal (N := N__law_all) (n := 7) (k := 0) (ms := TL.m__law_all) T.d__law_all sc__law_all rfl rfl (fun f cdv A outer s H E B hr hB => by
    have hnp : B.np ≤ 1 := Nat.le_of_eq hB
    have S := sc__law_all
    exact (xs (xs_par2 (i := 1) (j := 2) (xlst (xa (xtup xa0 hnp (Many.le .nil (by decide))) xa0) hnp (Many.le (.cons .nil) (by decide))) (xlst (xa (xtup xa0 hnp (Many.le .nil (by decide))) xa0) hnp (Many.le (.cons .nil) (by decide))) hnp rfl S.nd (by decide))
    (xs (xs_for (passes_of rfl) rfl (xi_rng1 T.b_range (xv 0)) (xg_name hnp S.nd (i := 3))
    (xs (xs_set (i := 4) (xlst xa0 hnp (Many.le .nil (by decide))) hnp S.nd)
    (xs (xs_for (passes_of rfl) rfl (xi_seq hnp (xv 2)) (xg_name hnp S.nd (i := 5))
    (xs1 (xs_set (i := 4) (xop2 ok_add (xv 4) (xlc (own := [("item", 6)]) rfl S.nd (xi_rng2 T.b_range xint (xop2 ok_add (xv 0) xint)) (blkOk_of (by kernel_rfl)) (fun b => (xg_name hnp S.nd (i := 6))) (fun b => (xts1 (xt_cmp (ok_notIn (hu65 hr)) (xv 6) (xv 5)))) (fun b => (xop2 ok_add (xv 5) (xtup (xa (xv 6) xa0) hnp (Many.le (.cons .nil) (by decide))))) hnp (by decide) (by decide))) hnp S.nd)))
    (xs1 (xs_par2 (i := 1) (j := 2) (xop2 ok_add (xv 1) (xv 4)) (xv 4) hnp rfl S.nd (by decide))))))
    (xs1 (xs_ret (xv 1) hnp)))))
abbrev N__law_actions : List Str := ["size", "found", "item", "rows", "some"]
theorem sc__law_actions : FnScope N__law_actions ["size"] (defScope s__law_actions) := ⟨rfl, rfl, rfl, by decide +kernel, rfl, by decide +kernel, by decide +kernel⟩
theorem ok__law_actions (T : Txt K mg) : Cal P w K mg base "_law_actions" ["size"] 1 [false] TL.f__law_actions :=
  cal (N := N__law_actions) (n := 5) (k := 0) (ms := TL.m__law_actions) T.d__law_actions sc__law_actions rfl rfl (fun f cdv A outer s H E B hr hB => by
    have hnp : B.np ≤ 1 := Nat.le_of_eq hB
    have S := sc__law_actions
    exact (xs (xs_setI (i := 1) (xlst (xa (xtup xa0 hnp (Many.le .nil (by decide))) xa0) hnp (Many.le (.cons .nil) (by decide))) hnp S.nd)
    (xs (xs_for (passes_of rfl) rfl (xi_rng2 T.b_range xint (xop2 ok_add (xv 0) xint)) (xg_name hnp S.nd (i := 2))
    (xs1 (xs_setI (i := 1) (xop2 ok_add (xv 1) (xlc (own := [("some", 4)]) rfl S.nd (xi_seq hnp (xv 1)) (blkOk_of (by kernel_rfl)) (fun b => (xg_name hnp S.nd (i := 4))) (fun b => xts0) (fun b => (xop2 ok_add (xv 4) (xtup (xa (xv 2) xa0) hnp (Many.le (.cons .nil) (by decide))))) hnp (by decide) (by decide))) hnp S.nd)))
    (xs (xs_setI (i := 3) (xcb (ok_sortedG (hu67 hr)) (by rfl) T.b_sorted PyProof.Rows.boot_sorted (xa (xlc (own := [("some", 4)]) rfl S.nd (xi_seq hnp (xv 1)) (blkOk_of (by kernel_rfl)) (fun b => (xg_name hnp S.nd (i := 4))) (fun b => (xts1 (xt_cmp (ok_ne (hu64 hr)) (xv 4) (xtup xa0 hnp (Many.le .nil (by decide)))))) (fun b => (xv 4)) hnp (by decide) (by decide)) xa0)) hnp S.nd)
    (xs1 (xs_ret (xop2 ok_add (xlc (own := [("some", 4)]) rfl S.nd (xi_seq hnp (xv 3)) (blkOk_of (by kernel_rfl)) (fun b => (xg_name hnp S.nd (i := 4))) (fun b => xts0) (fun b => (xtup (xa xstr (xa (xv 4) xa0)) hnp (Many.le (.cons (.cons .nil)) (by decide)))) hnp (by decide) (by decide)) (xlc (own := [("some", 4)]) rfl S.nd (xi_seq hnp (xv 3)) (blkOk_of (by kernel_rfl)) (fun b => (xg_name hnp S.nd (i := 4))) (fun b => xts0) (fun b => (xtup (xa xstr (xa (xv 4) xa0)) hnp (Many.le (.cons (.cons .nil)) (by decide)))) hnp (by decide) (by decide))) hnp))))))
abbrev N__law_layers : List Str := ["size", "chosen", "found", "layer", "depth", "moves", "later", "old", "action", "new"]
theorem sc__law_layers : FnScope N__law_layers ["size", "chosen"] (defScope s__law_layers) := ⟨rfl, rfl, rfl, by decide +kernel, rfl, by decide +kernel, by decide +kernel⟩
theorem ok__law_layers (T : Txt K mg) : Cal P w K mg base "_law_layers" ["size", "chosen"] 2 [false, false] TL.f__law_layers := by
    have c__law_after := ok__law_after (P := P) (w := w) (base := base) T
    have c__law_actions := ok__law_actions (P := P) (w := w) (base := base) T
    exact cal (N := N__law_layers) (n := 10) (k := 1) (ms := TL.m__law_layers) T.d__law_layers sc__law_layers rfl rfl (fun f cdv A outer s H E B hr hB => by
    have hnp : B.np ≤ 2 := Nat.le_of_eq hB
    have S := sc__law_layers
    exact (xs (xs_parT (xa (xdisp1 (hu1 hr) hnp (xv 1) xint) (xa (xlst (xa (xv 1) xa0) hnp (Many.le (.cons .nil) (by decide))) (xa xint (xa (xcl c__law_actions hr (by decide) (takes_of rfl rfl rfl rfl) hnp (xa (xv 0) xa0)) xa0)))) (xn (i := 2) (xn (i := 3) (xn (i := 4) (xn (i := 5) xn0 S.nd) S.nd) S.nd) S.nd) hnp rfl (Many.len' (.cons (.cons (.cons (.cons .nil)))) rfl) (by decide))
    (xs (xs_while 1000 (passes_of rfl) (xt_cmp (ok_ne (hu64 hr)) (xv 3) (xlst xa0 hnp (Many.le .nil (by decide))))
    (xs (xs_par2 (i := 4) (j := 6) (xop2 ok_add (xv 4) xint) (xlst xa0 hnp (Many.le .nil (by decide))) hnp rfl S.nd (by decide))
    (xs (xs_for (passes_of rfl) rfl (xi_seq hnp (xv 3)) (xg_name hnp S.nd (i := 7))
    (xs1 (xs_for (passes_of rfl) rfl (xi_seq hnp (xv 5)) (xg_name hnp S.nd (i := 8))
    (xs (xs_setI (i := 9) (xcl c__law_after hr (by decide) (takes_of rfl rfl rfl rfl) hnp (xa (xv 7) (xa (xv 8) xa0))) hnp S.nd)
    (xs1 (xs_if (xt_cmp (ok_dnotin (hu1 hr)) (xv 9) (xv 2))
    (xs (xs_putD (j := 2) (hu1 hr) hnp (xv 9) (xv 4))
    (xs1 (xs_expr (xappend 6 (xv 9) hnp))))
    xs0))))))
    (xs1 (xs_setI (i := 3) (xv 6) hnp S.nd)))))
    (xs1 (xs_ret (xv 2) hnp)))))
abbrev N_law : List Str := ["script", "k", "bag", "turn", "state", "table", "far", "number", "goal", "own"]
theorem sc_law : FnScope N_law ["script"] (defScope s_law) := ⟨rfl, rfl, rfl, by decide +kernel, rfl, by decide +kernel, by decide +kernel⟩
theorem ok_law (T : Txt K mg) : ∃ (f : Addr) (fd : FuncData), mg "law" = some (.ref f) ∧ (∀ (s : Shared) (us : List Value), us.length = (["script"] : List Str).length → BindsTo s fd ⟨us, []⟩ ((["script"] : List Str).zip us)) ∧
    ∀ base : Heap, K.In base → base.Ns mainGlobals mg → FnOk P w K mg base (L2.CX P w) 7 f fd ["script"] (spFn ⟨K, mg⟩ [false] TL.f_law_k13) :=
  cal_law (N := N_law) (n := 10) (k := 6) (ms := TL.m_law_k13) T.d_law sc_law rfl rfl (fun base => by
    have c_count_at := ok_count_at (P := P) (w := w) (base := base) T
    have c__law_bag := ok__law_bag (P := P) (w := w) (base := base) T
    have c__law_state := ok__law_state (P := P) (w := w) (base := base) T
    have c__law_all := ok__law_all (P := P) (w := w) (base := base) T
    have c__law_layers := ok__law_layers (P := P) (w := w) (base := base) T
    exact (fun f cdv A outer s H E B hr hB => by
    have hnp : B.np ≤ 1 := Nat.le_of_eq hB
    have S := sc_law
    exact (xs (xs_for (passes_of rfl) rfl (xi_rng1 T.b_range (xop2 ok_add (xcb (ok_min rfl) (by rfl) T.b_min PyProof.Rows.boot_min (xa (xcb ok_len (by rfl) T.b_len PySem.boot_len (xa (xv 0) xa0)) (xa xint xa0))) xint)) (xg_name hnp S.nd (i := 1))
    (xs (xs_set (i := 2) (xcl c__law_bag hr (by decide) (takes_of rfl rfl rfl rfl) hnp (xa (xv 0) (xa (xv 1) xa0))) hnp S.nd)
    (xs1 (xs_for (passes_of rfl) rfl (xi_rng1 T.b_range xint) (xg_name hnp S.nd (i := 3))
    (xs (xs_setI (i := 4) (xcl c__law_state hr (by decide) (takes_of rfl rfl rfl rfl) hnp (xa (xv 2) (xa xint xa0))) hnp S.nd)
    (xs (xs_setI (i := 5) (xcl c__law_layers hr (by decide) (takes_of rfl rfl rfl rfl) hnp (xa (xitem (xv 4) xint) (xa (xitem (xv 4) xint) xa0))) hnp S.nd)
    (xs (xs_setLcDI (i := 6) (own := [("goal", 8)]) (j := 5) rfl S.nd (blkOk_of (by kernel_rfl)) (fun B hnp b => (xg_name hnp S.nd (i := 8))) (fun B hnp b => xts0) (fun B hnp b => (xdix (hu1 hr) (xv 5) (xv 8))) hnp (by decide) (by decide) (by rfl))
    (xs (xs_if (xt_cmp (ok_ne (hu64 hr)) (xcb ok_len (by rfl) T.b_len PySem.boot_len (xa (xv 6) xa0)) (xcb ok_len (by rfl) T.b_len PySem.boot_len (xa (xcl c__law_all hr (by decide) (takes_of rfl rfl rfl rfl) hnp (xa (xitem (xv 4) xint) xa0)) xa0)))
    (xs1 (xs_ret xbl hnp))
    xs0)
    (xs (xs_for (passes_of rfl) rfl (xi_rng1 T.b_range xint) (xg_name hnp S.nd (i := 7))
    (xs1 (xs_if (xt_cmp (ok_ne (hu64 hr)) (xcl c_count_at hr (by decide) (takes_of rfl rfl rfl rfl) hnp (xa (xv 4) (xa (xv 7) xa0))) (xcb ok_len (by rfl) T.b_len PySem.boot_len (xa (xlc (own := [("own", 9)]) rfl S.nd (xi_seq hnp (xv 6)) (blkOk_of (by kernel_rfl)) (fun b => (xg_name hnp S.nd (i := 9))) (fun b => (xts1 (xt_cmp (ok_eq (hu64 hr)) (xv 9) (xv 7)))) (fun b => (xv 9)) hnp (by decide) (by decide)) xa0)))
    (xs1 (xs_ret xbl hnp))
    xs0)))
    (xs1 (xs_if (xt_cmp (ok_ne (hu64 hr)) (xcl c_count_at hr (by decide) (takes_of rfl rfl rfl rfl) hnp (xa (xv 4) (xa xint xa0))) xint)
    (xs1 (xs_ret xbl hnp))
    xs0)))))))))))
    (xs (xs_if (xt_cmp (ok_ne (hu64 hr)) (xlc (own := [("number", 7)]) rfl S.nd (xi_rng1 T.b_range xint) (blkOk_of (by kernel_rfl)) (fun b => (xg_name hnp S.nd (i := 7))) (fun b => xts0) (fun b => (xcl c_count_at hr (by decide) takesF hnp (xa (xtup (xa xint (xa (xtup xa0 hnp (Many.le .nil (by decide))) xa0)) hnp (Many.le (.cons (.cons .nil)) (by decide))) (xa (xv 7) xa0)))) hnp (by decide) (by decide)) (xlst (xa xint (xa xint (xa xint (xa xint xa0)))) hnp (Many.le (.cons (.cons (.cons (.cons .nil)))) (by decide))))
    (xs1 (xs_ret xbl hnp))
    xs0)
    (xs1 (xs_ret (xand (xcmp (ok_eq (hu64 hr)) (xcl c_count_at hr (by decide) (takes_of rfl rfl rfl rfl) hnp (xa (xtup (xa xint (xa (xtup xa0 hnp (Many.le .nil (by decide))) xa0)) hnp (Many.le (.cons (.cons .nil)) (by decide))) (xa xint xa0))) xint) (xone (xcmp (ok_eq (hu64 hr)) (xcl c_count_at hr (by decide) (takes_of rfl rfl rfl rfl) hnp (xa (xtup (xa xint (xa (xtup (xa xint xa0) hnp (Many.le (.cons .nil) (by decide))) xa0)) hnp (Many.le (.cons (.cons .nil)) (by decide))) (xa xint xa0))) xint))) hnp))))))
end
theorem txt_mk {K : PySem.W.Frag} {h : Heap} {mg : Str → Option Value} (X : K.In h) (G : h.Ns mainGlobals mg)
    (z_all : PySem.W.nsIn K mainGlobals "all" = some none)
    (z_bool : PySem.W.nsIn K mainGlobals "bool" = some none)
    (z_int : PySem.W.nsIn K mainGlobals "int" = some none)
    (z_isinstance : PySem.W.nsIn K mainGlobals "isinstance" = some none)
    (z_len : PySem.W.nsIn K mainGlobals "len" = some none)
    (z_list : PySem.W.nsIn K mainGlobals "list" = some none)
    (z_min : PySem.W.nsIn K mainGlobals "min" = some none)
    (z_range : PySem.W.nsIn K mainGlobals "range" = some none)
    (z_set : PySem.W.nsIn K mainGlobals "set" = some none)
    (z_sorted : PySem.W.nsIn K mainGlobals "sorted" = some none)
    (z_tuple : PySem.W.nsIn K mainGlobals "tuple" = some none)
    {t_LARGEST : Tok} (i_LARGEST : PySem.W.nsIn K mainGlobals "LARGEST" = some (some (.int 16 t_LARGEST)))
    {t_SMALL : Tok} (i_SMALL : PySem.W.nsIn K mainGlobals "SMALL" = some (some (.int 5 t_SMALL)))
    {C_InvalidNumber : Addr} (xa_InvalidNumber : PySem.W.nsIn K mainGlobals "InvalidNumber" = some (some (.ref C_InvalidNumber))) (xq_InvalidNumber : PySem.W.excIn K C_InvalidNumber [.type "ValueError", .type "Exception", .type "BaseException", .type "object"] "ValueError.__new__" = true) (xk_InvalidNumber : PySem.W.keepIn K (.ref C_InvalidNumber) = true) (xb_InvalidNumber : PySem.W.subIn K (.ref C_InvalidNumber) (.type "BaseException") = some true) (xt_InvalidNumber : PySem.W.typeIn K (.ref C_InvalidNumber) = some (.type "type"))
    {C_InvalidState : Addr} (xa_InvalidState : PySem.W.nsIn K mainGlobals "InvalidState" = some (some (.ref C_InvalidState))) (xq_InvalidState : PySem.W.excIn K C_InvalidState [.type "ValueError", .type "Exception", .type "BaseException", .type "object"] "ValueError.__new__" = true) (xk_InvalidState : PySem.W.keepIn K (.ref C_InvalidState) = true) (xb_InvalidState : PySem.W.subIn K (.ref C_InvalidState) (.type "BaseException") = some true) (xt_InvalidState : PySem.W.typeIn K (.ref C_InvalidState) = some (.type "type"))
    {C_TooLarge : Addr} (xa_TooLarge : PySem.W.nsIn K mainGlobals "TooLarge" = some (some (.ref C_TooLarge))) (xq_TooLarge : PySem.W.excIn K C_TooLarge [.type "ValueError", .type "Exception", .type "BaseException", .type "object"] "ValueError.__new__" = true) (xk_TooLarge : PySem.W.keepIn K (.ref C_TooLarge) = true) (xb_TooLarge : PySem.W.subIn K (.ref C_TooLarge) (.type "BaseException") = some true) (xt_TooLarge : PySem.W.typeIn K (.ref C_TooLarge) = some (.type "type"))
    {f_0 : Addr} {oc_0 kV_0 dc_0 pm_0 cd_0 ct_0 : Value} {od_0 an_0 : Option Addr} {sl_0 : Array (Option Value)} (a_0 : PySem.W.nsIn K mainGlobals "is_integer" = some (some (.ref f_0))) (l_0 : K.lookup f_0 = some ⟨oc_0, od_0, .func (PySem.W.fnOf "is_integer" "is_integer" (defArgs s_is_integer) (defBody s_is_integer) (defScope s_is_integer) .none kV_0 dc_0 pm_0 an_0 cd_0 ct_0), sl_0⟩) (c_0 : PySem.W.codeIn K cd_0 "is_integer" = true) (k_0 : PySem.W.keepIn K (.ref f_0) = true)
    {f_1 : Addr} {oc_1 kV_1 dc_1 pm_1 cd_1 ct_1 : Value} {od_1 an_1 : Option Addr} {sl_1 : Array (Option Value)} (a_1 : PySem.W.nsIn K mainGlobals "is_size" = some (some (.ref f_1))) (l_1 : K.lookup f_1 = some ⟨oc_1, od_1, .func (PySem.W.fnOf "is_size" "is_size" (defArgs s_is_size) (defBody s_is_size) (defScope s_is_size) .none kV_1 dc_1 pm_1 an_1 cd_1 ct_1), sl_1⟩) (c_1 : PySem.W.codeIn K cd_1 "is_size" = true) (k_1 : PySem.W.keepIn K (.ref f_1) = true)
    {f_2 : Addr} {oc_2 kV_2 dc_2 pm_2 cd_2 ct_2 : Value} {od_2 an_2 : Option Addr} {sl_2 : Array (Option Value)} (a_2 : PySem.W.nsIn K mainGlobals "are_items" = some (some (.ref f_2))) (l_2 : K.lookup f_2 = some ⟨oc_2, od_2, .func (PySem.W.fnOf "are_items" "are_items" (defArgs s_are_items) (defBody s_are_items) (defScope s_are_items) .none kV_2 dc_2 pm_2 an_2 cd_2 ct_2), sl_2⟩) (c_2 : PySem.W.codeIn K cd_2 "are_items" = true) (k_2 : PySem.W.keepIn K (.ref f_2) = true)
    {f_3 : Addr} {oc_3 kV_3 dc_3 pm_3 cd_3 ct_3 : Value} {od_3 an_3 : Option Addr} {sl_3 : Array (Option Value)} (a_3 : PySem.W.nsIn K mainGlobals "is_chosen" = some (some (.ref f_3))) (l_3 : K.lookup f_3 = some ⟨oc_3, od_3, .func (PySem.W.fnOf "is_chosen" "is_chosen" (defArgs s_is_chosen) (defBody s_is_chosen) (defScope s_is_chosen) .none kV_3 dc_3 pm_3 an_3 cd_3 ct_3), sl_3⟩) (c_3 : PySem.W.codeIn K cd_3 "is_chosen" = true) (k_3 : PySem.W.keepIn K (.ref f_3) = true)
    {f_4 : Addr} {oc_4 kV_4 dc_4 pm_4 cd_4 ct_4 : Value} {od_4 an_4 : Option Addr} {sl_4 : Array (Option Value)} (a_4 : PySem.W.nsIn K mainGlobals "is_state" = some (some (.ref f_4))) (l_4 : K.lookup f_4 = some ⟨oc_4, od_4, .func (PySem.W.fnOf "is_state" "is_state" (defArgs s_is_state) (defBody s_is_state) (defScope s_is_state) .none kV_4 dc_4 pm_4 an_4 cd_4 ct_4), sl_4⟩) (c_4 : PySem.W.codeIn K cd_4 "is_state" = true) (k_4 : PySem.W.keepIn K (.ref f_4) = true)
    {f_5 : Addr} {oc_5 kV_5 dc_5 pm_5 cd_5 ct_5 : Value} {od_5 an_5 : Option Addr} {sl_5 : Array (Option Value)} (a_5 : PySem.W.nsIn K mainGlobals "require_state" = some (some (.ref f_5))) (l_5 : K.lookup f_5 = some ⟨oc_5, od_5, .func (PySem.W.fnOf "require_state" "require_state" (defArgs s_require_state) (defBody s_require_state) (defScope s_require_state) .none kV_5 dc_5 pm_5 an_5 cd_5 ct_5), sl_5⟩) (c_5 : PySem.W.codeIn K cd_5 "require_state" = true) (k_5 : PySem.W.keepIn K (.ref f_5) = true)
    {f_6 : Addr} {oc_6 kV_6 dc_6 pm_6 cd_6 ct_6 : Value} {od_6 an_6 : Option Addr} {sl_6 : Array (Option Value)} (a_6 : PySem.W.nsIn K mainGlobals "left_of" = some (some (.ref f_6))) (l_6 : K.lookup f_6 = some ⟨oc_6, od_6, .func (PySem.W.fnOf "left_of" "left_of" (defArgs s_left_of) (defBody s_left_of) (defScope s_left_of) .none kV_6 dc_6 pm_6 an_6 cd_6 ct_6), sl_6⟩) (c_6 : PySem.W.codeIn K cd_6 "left_of" = true) (k_6 : PySem.W.keepIn K (.ref f_6) = true)
    {f_7 : Addr} {oc_7 kV_7 dc_7 pm_7 cd_7 ct_7 : Value} {od_7 an_7 : Option Addr} {sl_7 : Array (Option Value)} (a_7 : PySem.W.nsIn K mainGlobals "runs_of" = some (some (.ref f_7))) (l_7 : K.lookup f_7 = some ⟨oc_7, od_7, .func (PySem.W.fnOf "runs_of" "runs_of" (defArgs s_runs_of) (defBody s_runs_of) (defScope s_runs_of) .none kV_7 dc_7 pm_7 an_7 cd_7 ct_7), sl_7⟩) (c_7 : PySem.W.codeIn K cd_7 "runs_of" = true) (k_7 : PySem.W.keepIn K (.ref f_7) = true)
    {f_8 : Addr} {oc_8 kV_8 dc_8 pm_8 cd_8 ct_8 : Value} {od_8 an_8 : Option Addr} {sl_8 : Array (Option Value)} (a_8 : PySem.W.nsIn K mainGlobals "kept_of" = some (some (.ref f_8))) (l_8 : K.lookup f_8 = some ⟨oc_8, od_8, .func (PySem.W.fnOf "kept_of" "kept_of" (defArgs s_kept_of) (defBody s_kept_of) (defScope s_kept_of) .none kV_8 dc_8 pm_8 an_8 cd_8 ct_8), sl_8⟩) (c_8 : PySem.W.codeIn K cd_8 "kept_of" = true) (k_8 : PySem.W.keepIn K (.ref f_8) = true)
    {f_9 : Addr} {oc_9 kV_9 dc_9 pm_9 cd_9 ct_9 : Value} {od_9 an_9 : Option Addr} {sl_9 : Array (Option Value)} (a_9 : PySem.W.nsIn K mainGlobals "away" = some (some (.ref f_9))) (l_9 : K.lookup f_9 = some ⟨oc_9, od_9, .func (PySem.W.fnOf "away" "away" (defArgs s_away) (defBody s_away) (defScope s_away) .none kV_9 dc_9 pm_9 an_9 cd_9 ct_9), sl_9⟩) (c_9 : PySem.W.codeIn K cd_9 "away" = true) (k_9 : PySem.W.keepIn K (.ref f_9) = true)
    {f_10 : Addr} {oc_10 kV_10 dc_10 pm_10 cd_10 ct_10 : Value} {od_10 an_10 : Option Addr} {sl_10 : Array (Option Value)} (a_10 : PySem.W.nsIn K mainGlobals "require_number" = some (some (.ref f_10))) (l_10 : K.lookup f_10 = some ⟨oc_10, od_10, .func (PySem.W.fnOf "require_number" "require_number" (defArgs s_require_number) (defBody s_require_number) (defScope s_require_number) .none kV_10 dc_10 pm_10 an_10 cd_10 ct_10), sl_10⟩) (c_10 : PySem.W.codeIn K cd_10 "require_number" = true) (k_10 : PySem.W.keepIn K (.ref f_10) = true)
    {f_11 : Addr} {oc_11 kV_11 dc_11 pm_11 cd_11 ct_11 : Value} {od_11 an_11 : Option Addr} {sl_11 : Array (Option Value)} (a_11 : PySem.W.nsIn K mainGlobals "all_lists" = some (some (.ref f_11))) (l_11 : K.lookup f_11 = some ⟨oc_11, od_11, .func (PySem.W.fnOf "all_lists" "all_lists" (defArgs s_all_lists) (defBody s_all_lists) (defScope s_all_lists) .none kV_11 dc_11 pm_11 an_11 cd_11 ct_11), sl_11⟩) (c_11 : PySem.W.codeIn K cd_11 "all_lists" = true) (k_11 : PySem.W.keepIn K (.ref f_11) = true)
    {f_12 : Addr} {oc_12 kV_12 dc_12 pm_12 cd_12 ct_12 : Value} {od_12 an_12 : Option Addr} {sl_12 : Array (Option Value)} (a_12 : PySem.W.nsIn K mainGlobals "count_at" = some (some (.ref f_12))) (l_12 : K.lookup f_12 = some ⟨oc_12, od_12, .func (PySem.W.fnOf "count_at" "count_at" (defArgs s_count_at) (defBody s_count_at) (defScope s_count_at) .none kV_12 dc_12 pm_12 an_12 cd_12 ct_12), sl_12⟩) (c_12 : PySem.W.codeIn K cd_12 "count_at" = true) (k_12 : PySem.W.keepIn K (.ref f_12) = true)
    {f_13 : Addr} {oc_13 kV_13 dc_13 pm_13 cd_13 ct_13 : Value} {od_13 an_13 : Option Addr} {sl_13 : Array (Option Value)} (a_13 : PySem.W.nsIn K mainGlobals "_law_bag" = some (some (.ref f_13))) (l_13 : K.lookup f_13 = some ⟨oc_13, od_13, .func (PySem.W.fnOf "_law_bag" "_law_bag" (defArgs s__law_bag) (defBody s__law_bag) (defScope s__law_bag) .none kV_13 dc_13 pm_13 an_13 cd_13 ct_13), sl_13⟩) (c_13 : PySem.W.codeIn K cd_13 "_law_bag" = true) (k_13 : PySem.W.keepIn K (.ref f_13) = true)
    {f_14 : Addr} {oc_14 kV_14 dc_14 pm_14 cd_14 ct_14 : Value} {od_14 an_14 : Option Addr} {sl_14 : Array (Option Value)} (a_14 : PySem.W.nsIn K mainGlobals "_law_take" = some (some (.ref f_14))) (l_14 : K.lookup f_14 = some ⟨oc_14, od_14, .func (PySem.W.fnOf "_law_take" "_law_take" (defArgs s__law_take) (defBody s__law_take) (defScope s__law_take) .none kV_14 dc_14 pm_14 an_14 cd_14 ct_14), sl_14⟩) (c_14 : PySem.W.codeIn K cd_14 "_law_take" = true) (k_14 : PySem.W.keepIn K (.ref f_14) = true)
    {f_15 : Addr} {oc_15 kV_15 dc_15 pm_15 cd_15 ct_15 : Value} {od_15 an_15 : Option Addr} {sl_15 : Array (Option Value)} (a_15 : PySem.W.nsIn K mainGlobals "_law_of" = some (some (.ref f_15))) (l_15 : K.lookup f_15 = some ⟨oc_15, od_15, .func (PySem.W.fnOf "_law_of" "_law_of" (defArgs s__law_of) (defBody s__law_of) (defScope s__law_of) .none kV_15 dc_15 pm_15 an_15 cd_15 ct_15), sl_15⟩) (c_15 : PySem.W.codeIn K cd_15 "_law_of" = true) (k_15 : PySem.W.keepIn K (.ref f_15) = true)
    {f_16 : Addr} {oc_16 kV_16 dc_16 pm_16 cd_16 ct_16 : Value} {od_16 an_16 : Option Addr} {sl_16 : Array (Option Value)} (a_16 : PySem.W.nsIn K mainGlobals "_law_list" = some (some (.ref f_16))) (l_16 : K.lookup f_16 = some ⟨oc_16, od_16, .func (PySem.W.fnOf "_law_list" "_law_list" (defArgs s__law_list) (defBody s__law_list) (defScope s__law_list) .none kV_16 dc_16 pm_16 an_16 cd_16 ct_16), sl_16⟩) (c_16 : PySem.W.codeIn K cd_16 "_law_list" = true) (k_16 : PySem.W.keepIn K (.ref f_16) = true)
    {f_17 : Addr} {oc_17 kV_17 dc_17 pm_17 cd_17 ct_17 : Value} {od_17 an_17 : Option Addr} {sl_17 : Array (Option Value)} (a_17 : PySem.W.nsIn K mainGlobals "_law_state" = some (some (.ref f_17))) (l_17 : K.lookup f_17 = some ⟨oc_17, od_17, .func (PySem.W.fnOf "_law_state" "_law_state" (defArgs s__law_state) (defBody s__law_state) (defScope s__law_state) .none kV_17 dc_17 pm_17 an_17 cd_17 ct_17), sl_17⟩) (c_17 : PySem.W.codeIn K cd_17 "_law_state" = true) (k_17 : PySem.W.keepIn K (.ref f_17) = true)
    {f_18 : Addr} {oc_18 kV_18 dc_18 pm_18 cd_18 ct_18 : Value} {od_18 an_18 : Option Addr} {sl_18 : Array (Option Value)} (a_18 : PySem.W.nsIn K mainGlobals "_law_after" = some (some (.ref f_18))) (l_18 : K.lookup f_18 = some ⟨oc_18, od_18, .func (PySem.W.fnOf "_law_after" "_law_after" (defArgs s__law_after) (defBody s__law_after) (defScope s__law_after) .none kV_18 dc_18 pm_18 an_18 cd_18 ct_18), sl_18⟩) (c_18 : PySem.W.codeIn K cd_18 "_law_after" = true) (k_18 : PySem.W.keepIn K (.ref f_18) = true)
    {f_19 : Addr} {oc_19 kV_19 dc_19 pm_19 cd_19 ct_19 : Value} {od_19 an_19 : Option Addr} {sl_19 : Array (Option Value)} (a_19 : PySem.W.nsIn K mainGlobals "_law_all" = some (some (.ref f_19))) (l_19 : K.lookup f_19 = some ⟨oc_19, od_19, .func (PySem.W.fnOf "_law_all" "_law_all" (defArgs s__law_all) (defBody s__law_all) (defScope s__law_all) .none kV_19 dc_19 pm_19 an_19 cd_19 ct_19), sl_19⟩) (c_19 : PySem.W.codeIn K cd_19 "_law_all" = true) (k_19 : PySem.W.keepIn K (.ref f_19) = true)
    {f_20 : Addr} {oc_20 kV_20 dc_20 pm_20 cd_20 ct_20 : Value} {od_20 an_20 : Option Addr} {sl_20 : Array (Option Value)} (a_20 : PySem.W.nsIn K mainGlobals "_law_actions" = some (some (.ref f_20))) (l_20 : K.lookup f_20 = some ⟨oc_20, od_20, .func (PySem.W.fnOf "_law_actions" "_law_actions" (defArgs s__law_actions) (defBody s__law_actions) (defScope s__law_actions) .none kV_20 dc_20 pm_20 an_20 cd_20 ct_20), sl_20⟩) (c_20 : PySem.W.codeIn K cd_20 "_law_actions" = true) (k_20 : PySem.W.keepIn K (.ref f_20) = true)
    {f_21 : Addr} {oc_21 kV_21 dc_21 pm_21 cd_21 ct_21 : Value} {od_21 an_21 : Option Addr} {sl_21 : Array (Option Value)} (a_21 : PySem.W.nsIn K mainGlobals "_law_layers" = some (some (.ref f_21))) (l_21 : K.lookup f_21 = some ⟨oc_21, od_21, .func (PySem.W.fnOf "_law_layers" "_law_layers" (defArgs s__law_layers) (defBody s__law_layers) (defScope s__law_layers) .none kV_21 dc_21 pm_21 an_21 cd_21 ct_21), sl_21⟩) (c_21 : PySem.W.codeIn K cd_21 "_law_layers" = true) (k_21 : PySem.W.keepIn K (.ref f_21) = true)
    {f_22 : Addr} {oc_22 kV_22 dc_22 pm_22 cd_22 ct_22 : Value} {od_22 an_22 : Option Addr} {sl_22 : Array (Option Value)} (a_22 : PySem.W.nsIn K mainGlobals "law" = some (some (.ref f_22))) (l_22 : K.lookup f_22 = some ⟨oc_22, od_22, .func (PySem.W.fnOf "law" "law" (defArgs s_law) (defBody s_law) (defScope s_law) .none kV_22 dc_22 pm_22 an_22 cd_22 ct_22), sl_22⟩) (c_22 : PySem.W.codeIn K cd_22 "law" = true) (k_22 : PySem.W.keepIn K (.ref f_22) = true)
    : Txt K mg :=
  ⟨PySem.W.mg_none_of X G z_all,
   PySem.W.mg_none_of X G z_bool,
   PySem.W.mg_none_of X G z_int,
   PySem.W.mg_none_of X G z_isinstance,
   PySem.W.mg_none_of X G z_len,
   PySem.W.mg_none_of X G z_list,
   PySem.W.mg_none_of X G z_min,
   PySem.W.mg_none_of X G z_range,
   PySem.W.mg_none_of X G z_set,
   PySem.W.mg_none_of X G z_sorted,
   PySem.W.mg_none_of X G z_tuple,
   .mk' X G i_LARGEST,
   .mk' X G i_SMALL,
   .mk' X G xa_InvalidNumber xq_InvalidNumber xk_InvalidNumber xb_InvalidNumber xt_InvalidNumber,
   .mk' X G xa_InvalidState xq_InvalidState xk_InvalidState xb_InvalidState xt_InvalidState,
   .mk' X G xa_TooLarge xq_TooLarge xk_TooLarge xb_TooLarge xt_TooLarge,
   .mk' X G a_0 l_0 c_0 k_0 (fun _ _ _ _ _ _ us hl => match us, hl with | [_, _, _], _ => rfl),
   .mk' X G a_1 l_1 c_1 k_1 (fun _ _ _ _ _ _ us hl => match us, hl with | [_], _ => rfl),
   .mk' X G a_2 l_2 c_2 k_2 (fun _ _ _ _ _ _ us hl => match us, hl with | [_, _], _ => rfl),
   .mk' X G a_3 l_3 c_3 k_3 (fun _ _ _ _ _ _ us hl => match us, hl with | [_, _], _ => rfl),
   .mk' X G a_4 l_4 c_4 k_4 (fun _ _ _ _ _ _ us hl => match us, hl with | [_], _ => rfl),
   .mk' X G a_5 l_5 c_5 k_5 (fun _ _ _ _ _ _ us hl => match us, hl with | [_], _ => rfl),
   .mk' X G a_6 l_6 c_6 k_6 (fun _ _ _ _ _ _ us hl => match us, hl with | [_, _], _ => rfl),
   .mk' X G a_7 l_7 c_7 k_7 (fun _ _ _ _ _ _ us hl => match us, hl with | [_], _ => rfl),
   .mk' X G a_8 l_8 c_8 k_8 (fun _ _ _ _ _ _ us hl => match us, hl with | [_, _], _ => rfl),
   .mk' X G a_9 l_9 c_9 k_9 (fun _ _ _ _ _ _ us hl => match us, hl with | [_, _], _ => rfl),
   .mk' X G a_10 l_10 c_10 k_10 (fun _ _ _ _ _ _ us hl => match us, hl with | [_], _ => rfl),
   .mk' X G a_11 l_11 c_11 k_11 (fun _ _ _ _ _ _ us hl => match us, hl with | [_], _ => rfl),
   .mk' X G a_12 l_12 c_12 k_12 (fun _ _ _ _ _ _ us hl => match us, hl with | [_, _], _ => rfl),
   .mk' X G a_13 l_13 c_13 k_13 (fun _ _ _ _ _ _ us hl => match us, hl with | [_, _], _ => rfl),
   .mk' X G a_14 l_14 c_14 k_14 (fun _ _ _ _ _ _ us hl => match us, hl with | [_, _], _ => rfl),
   .mk' X G a_15 l_15 c_15 k_15 (fun _ _ _ _ _ _ us hl => match us, hl with | [_, _], _ => rfl),
   .mk' X G a_16 l_16 c_16 k_16 (fun _ _ _ _ _ _ us hl => match us, hl with | [_, _], _ => rfl),
   .mk' X G a_17 l_17 c_17 k_17 (fun _ _ _ _ _ _ us hl => match us, hl with | [_, _], _ => rfl),
   .mk' X G a_18 l_18 c_18 k_18 (fun _ _ _ _ _ _ us hl => match us, hl with | [_, _], _ => rfl),
   .mk' X G a_19 l_19 c_19 k_19 (fun _ _ _ _ _ _ us hl => match us, hl with | [_], _ => rfl),
   .mk' X G a_20 l_20 c_20 k_20 (fun _ _ _ _ _ _ us hl => match us, hl with | [_], _ => rfl),
   .mk' X G a_21 l_21 c_21 k_21 (fun _ _ _ _ _ _ us hl => match us, hl with | [_, _], _ => rfl),
   .mk' X G a_22 l_22 c_22 k_22 (fun _ _ _ _ _ _ us hl => match us, hl with | [_], _ => rfl)⟩
end K13

set_option maxRecDepth 100000
namespace PL
open PySem PySem.Spec PyProof.Rows L2

/-! ### how the plain functions compute -/
section
variable {α β : Type}
@[simp] theorem ap_bind (m : M α) (f : α → M β) (env : En) : M.bind m f env = (m env).bind f := rfl
@[simp] theorem ap_K (d : D) (env : En) : mK d env = .ok (.im d) env := rfl
@[simp] theorem ap_nil (env : En) : mNil env = .ok [] env := rfl
@[simp] theorem ap_cons (m : M Rf) (r : M (List Rf)) (env : En) : mCons m r env = (m env).bind fun x e => (r e).bind fun xs e2 => .ok (x :: xs) e2 := rfl
@[simp] theorem ap_op2 (g : Sl → Sl → Option Rf) (a b : M Rf) (env : En) : mOp2 g a b env = (a env).bind fun x e => (b e).bind fun y e2 => opv2 g x y e2 := rfl
@[simp] theorem ap_op1 (g : Sl → Option Rf) (a : M Rf) (env : En) : mOp1 g a env = (a env).bind fun x e => opv1 g x e := rfl
@[simp] theorem ap_mB (m : M Rf) (env : En) : mB m env = (m env).bind fun x env => match x with
  | .im (.bool k) => .ok k env
  | _ => .stuck := rfl
@[simp] theorem ap_not (m : M Bool) (env : En) : mNot m env = (m env).bind fun k env => .ok (!k) env := rfl
@[simp] theorem ap_and (a b : M Bool) (env : En) : mAnd a b env = (a env).bind fun k e => match k with
  | true => b e
  | false => .ok false e := by
  unfold mAnd
  rw [ap_bind]
  congr 1
  funext k e
  cases k <;> rfl
@[simp] theorem ap_or (a b : M Bool) (env : En) : mOr a b env = (a env).bind fun k e => match k with
  | true => .ok true e
  | false => b e := by
  unfold mOr
  rw [ap_bind]
  congr 1
  funext k e
  cases k <;> rfl
@[simp] theorem ap_seq (a b : MS) (env : En) : sSeq a b env = (a env).seq b := rfl
@[simp] theorem ap_drop (m : M Rf) (env : En) : sDrop m env = (m env).toSR fun _ e => .nx e := rfl
@[simp] theorem ap_if (t : M Bool) (a b : MS) (env : En) : sIf t a b env = (t env).toSR fun k e => match k with
  | true => a e
  | false => b e := rfl
@[simp] theorem ap_next (env : En) : sNext env = .nx env := rfl
@[simp] theorem ap_set (np i : Nat) (m : M Rf) (env : En) : sSet np i m env = ((m env).bind (toS np)).toSR fun s e => sStore np i s e := rfl
@[simp] theorem ap_raise (c : Str) (env : En) : sRaise c env = .exn c env := rfl
@[simp] theorem ap_call (np : Nat) (fl : List Bool) (f : Fn) (ms : M (List Rf)) (env : En) : mCall np fl f ms env = (ms env).bind fun xs e => callS np fl f xs e := rfl
@[simp] theorem ap_cb (g : List Sl → Option Rf) (ms : M (List Rf)) (env : En) : mCB g ms env = (ms env).bind fun xs env => match views env xs with
  | some ss => (match g ss with
    | some z => .ok z env
    | none => .stuck)
  | none => .stuck := rfl
end

section
@[simp] theorem ap_var0 (s : Sl) (r : En) : mVar 0 (s :: r) = (match s with
  | .no => .stuck
  | .im d => .ok (.im d) (s :: r)
  | _ => .ok (.var 0) (s :: r)) := by cases s <;> rfl
theorem ap_var {i : Nat} {env : En} {d : D} (h : env[i]? = some (.im d)) : mVar i env = .ok (.im d) env := by unfold mVar; rw [h]
theorem ap_varO {i : Nat} {env : En} {ds : List D} (h : env[i]? = some (.ol ds)) : mVar i env = .ok (.var i) env := by unfold mVar; rw [h]
@[simp] theorem view_im (env : En) (d : D) : view env (.im d) = some (.im d) := rfl
@[simp] theorem view_tmp (env : En) (s : Sl) : view env (.tmp s) = some s := rfl
theorem view_var {i : Nat} {env : En} {s : Sl} (h : env[i]? = some s) (n : s ≠ .no) : view env (.var i) = some s := by
  unfold view
  cases s <;> first | exact absurd rfl n | (simp [h])
@[simp] theorem views_nil (env : En) : views env [] = some [] := rfl
@[simp] theorem views_cons (env : En) (x : Rf) (xs : List Rf) : views env (x :: xs) = (match view env x, views env xs with
  | some s, some ss => some (s :: ss)
  | _, _ => none) := rfl
@[simp] theorem toI_im (np : Nat) (d : D) (env : En) : toI np (.im d) env = .ok d env := rfl
@[simp] theorem toI_ol (np : Nat) (ds : List D) (env : En) : toI np (.tmp (.ol ds)) env = .ok (.list ds) env := rfl
@[simp] theorem toS_im (np : Nat) (d : D) (env : En) : toS np (.im d) env = .ok (.im d) env := rfl
@[simp] theorem toS_tmp (np : Nat) (s : Sl) (env : En) : toS np (.tmp s) env = .ok s env := rfl
@[simp] theorem toS_var (np j : Nat) (env : En) : toS np (.var j) env = (toI np (.var j) env).bind fun d env => .ok (.im d) env := rfl
@[simp] theorem toIs_nil (np : Nat) (env : En) : toIs np [] env = .ok [] env := rfl
@[simp] theorem toIs_cons (np : Nat) (x : Rf) (xs : List Rf) (env : En) : toIs np (x :: xs) env = (toI np x env).bind fun d e => (toIs np xs e).bind fun ds e2 => .ok (d :: ds) e2 := rfl
@[simp] theorem toSs_nil (np : Nat) (env : En) : toSs np [] env = .ok [] env := rfl
@[simp] theorem toSs_cons (np : Nat) (x : Rf) (xs : List Rf) (env : En) : toSs np (x :: xs) env = (toS np x env).bind fun d e => (toSs np xs e).bind fun ds e2 => .ok (d :: ds) e2 := rfl
@[simp] theorem ap_tup (np : Nat) (ms : M (List Rf)) (env : En) : mTup np ms env = (ms env).bind fun xs e => (toIs np xs e).bind fun ds e2 => .ok (.im (.tuple ds)) e2 := rfl
@[simp] theorem ap_lst (np : Nat) (ms : M (List Rf)) (env : En) : mLst np ms env = (ms env).bind fun xs e => (toIs np xs e).bind fun ds e2 => .ok (.tmp (.ol ds)) e2 := rfl
@[simp] theorem ap_seqI (np : Nat) (m : M Rf) (env : En) : mSeq np m env = (m env).bind fun x e => (toI np x e).bind fun d e2 => (match d with
  | .list ds => .ok ds e2
  | .tuple ds => .ok ds e2
  | _ => .stuck) := rfl
@[simp] theorem ap_tru (m : M Rf) (env : En) : mTru m env = (m env).bind fun x env => match view env x with
  | some s => (match truS s with
    | some k => .ok k env
    | none => .stuck)
  | none => .stuck := rfl
@[simp] theorem ap_is (T : String) (m : M Rf) (env : En) : mIs T m env = (m env).bind fun x env => match view env x with
  | some s => (match tyOf s with
    | some t => .ok (.im (.bool (isT T t))) env
    | none => .stuck)
  | none => .stuck := rfl
@[simp] theorem ap_andV (a b : M Rf) (env : En) : mAndV a b env = (a env).bind fun x env => match x with
  | .im (.bool true) => b env
  | .im (.bool false) => .ok (.im (.bool false)) env
  | _ => .stuck := rfl
@[simp] theorem ap_orV (a b : M Rf) (env : En) : mOrV a b env = (a env).bind fun x env => match x with
  | .im (.bool false) => b env
  | .im (.bool true) => .ok (.im (.bool true)) env
  | _ => .stuck := rfl
@[simp] theorem ap_notV (a : M Rf) (env : En) : mNotV a env = (a env).bind fun x env => match x with
  | .im (.bool k) => .ok (.im (.bool (!k))) env
  | _ => .stuck := rfl
@[simp] theorem ap_ife (t : M Bool) (a b : M Rf) (env : En) : mIf t a b env = (t env).bind fun k e => match k with
  | true => a e
  | false => b e := by
  unfold mIf
  rw [ap_bind]
  congr 1
  funext k e
  cases k <;> rfl
@[simp] theorem ap_ret (np : Nat) (m : M Rf) (env : En) : sRet np m env = (m env).toSR fun x e => match x with
  | .im d => .rt (.im d) e
  | .tmp s => .rt s e
  | .var j => (match e[j]? with
    | some .no => .stuck
    | some (.im d) => .rt (.im d) e
    | some s => if np ≤ j then .rt s (e.set j .no) else .stuck
    | none => .stuck) := rfl
@[simp] theorem ap_retN (env : En) : sRetN env = .rt (.im .none) env := rfl
@[simp] theorem ap_par (np : Nat) (is : List Nat) (ms : M (List Rf)) (env : En) : sPar np is ms env = (ms env).toSR fun xs e1 => (toSs np xs e1).toSR fun ss e2 => storeAll np is ss e2 := rfl
@[simp] theorem storeAll_nil (np : Nat) (env : En) : storeAll np [] [] env = .nx env := rfl
@[simp] theorem storeAll_cons (np i : Nat) (is : List Nat) (s : Sl) (ss : List Sl) (env : En) : storeAll np (i :: is) (s :: ss) env = (match setSl np i s env with
  | some e => storeAll np is ss e
  | none => .stuck) := rfl
@[simp] theorem ap_unp (np : Nat) (mt : MT) (m : M Rf) (env : En) : sUnp np mt m env = ((m env).bind (toI np)).toSR fun d e => match mt d e with
  | some e' => .nx e'
  | none => .stuck := rfl
@[simp] theorem ap_for (mi : M (List D)) (mt : MT) (b : MS) (env : En) : sFor mi mt b env = (mi env).toSR fun ds e => loopS mt b ds e := rfl
@[simp] theorem ap_lc (np : Nat) (vs : List Nat) (mi : M (List D)) (mt : MT) (mc : M Bool) (me : M Rf) (env : En) : mLc np vs mi mt mc me env = (mi env).bind fun ds e => (lcLoop np vs mt mc me ds (wipeE vs e)).bindN fun r e' => .ok (.tmp (.ol r)) e' := rfl
@[simp] theorem ap_yes (env : En) : mYes env = .ok true env := rfl
@[simp] theorem opv2_im (g : Sl → Sl → Option Rf) (d e : D) (env : En) : opv2 g (.im d) (.im e) env = (match g (.im d) (.im e) with
  | some z => .ok z env
  | none => .stuck) := rfl
@[simp] theorem opv1_im (g : Sl → Option Rf) (d : D) (env : En) : opv1 g (.im d) env = (match g (.im d) with
  | some z => .ok z env
  | none => .stuck) := rfl
@[simp] theorem opv2_tmp (g : Sl → Sl → Option Rf) (s : Sl) (e : D) (env : En) : opv2 g (.tmp s) (.im e) env = (match g s (.im e) with
  | some z => .ok z env
  | none => .stuck) := rfl
@[simp] theorem gLe_int (i j : Int) : gLe (.im (.int i)) (.im (.int j)) = some (.im (.bool (decide (i ≤ j)))) := rfl
@[simp] theorem gLt_int (i j : Int) : gLt (.im (.int i)) (.im (.int j)) = some (.im (.bool (decide (i < j)))) := rfl
@[simp] theorem gAdd_int (i j : Int) : gAdd (.im (.int i)) (.im (.int j)) = some (.im (.int (i + j))) := rfl
@[simp] theorem gSub_int (i j : Int) : gSub (.im (.int i)) (.im (.int j)) = some (.im (.int (i - j))) := rfl
@[simp] theorem gNeg_int (i : Int) : gNeg (.im (.int i)) = some (.im (.int (-i))) := rfl
theorem gMod_int {i j : Int} (h : 0 < j) : gMod (.im (.int i)) (.im (.int j)) = some (.im (.int (i % j))) := if_pos h
theorem gDiv_int {i j : Int} (h : 0 < j) (h2 : j < 1073741824) : gDiv (.im (.int i)) (.im (.int j)) = some (.im (.int (i / j))) := if_pos ⟨h, h2⟩
theorem gMul_intR {i j : Int} (h : -(2 ^ 64) < j) (h2 : j < 2 ^ 64) : gMul (.im (.int i)) (.im (.int j)) = some (.im (.int (i * j))) := if_pos (.inr ⟨h, h2⟩)
@[simp] theorem gLen_tup (ds : List D) : gLen [.im (.tuple ds)] = some (.im (.int ds.length)) := rfl
@[simp] theorem gLen_lst (ds : List D) : gLen [.im (.list ds)] = some (.im (.int ds.length)) := rfl
@[simp] theorem gLen_ol (ds : List D) : gLen [.ol ds] = some (.im (.int ds.length)) := rfl
@[simp] theorem gLen_scr (ds : List D) : gLen [.im (.dict [(.none, .list ds)])] = some (.im (.int ds.length)) := rfl
@[simp] theorem asL_ol (ds : List D) : asL (.ol ds) = some ds := rfl
@[simp] theorem asL_im (ds : List D) : asL (.im (.list ds)) = some ds := rfl
@[simp] theorem gIx_tup (ds : List D) (i : Int) : gIx (.im (.tuple ds)) (.im (.int i)) = (L2.atI ds i).map .im := rfl
@[simp] theorem gIx_lst (ds : List D) (i : Int) : gIx (.im (.list ds)) (.im (.int i)) = (L2.atI ds i).map .im := rfl
@[simp] theorem gIx_ol (ds : List D) (i : Int) : gIx (.ol ds) (.im (.int i)) = (L2.atI ds i).map .im := rfl
@[simp] theorem gIx_scr (ds : List D) (i : Int) : gIx (.im (.dict [(.none, .list ds)])) (.im (.int i)) = (L2.atI ds i).map .im := rfl
theorem atI_nat {α : Type} (xs : List α) (n : Nat) : L2.atI xs (n : Int) = xs[n]? := by
  unfold L2.atI L2.ixN
  rw [if_pos (by omega)]
  by_cases h : n < xs.length
  · rw [if_pos (by omega)]; rfl
  · rw [if_neg (by omega), List.getElem?_eq_none (by omega)]; rfl
@[simp] theorem atI_0 {α : Type} (xs : List α) : L2.atI xs 0 = xs[0]? := atI_nat xs 0
@[simp] theorem atI_1 {α : Type} (xs : List α) : L2.atI xs 1 = xs[1]? := atI_nat xs 1
end

/-! ### loops and comprehensions -/
theorem lc_pure {np : Nat} {vs : List Nat} {mt : MT} {mc : M Bool} {me : M Rf} {E : En} {c : D → Bool} {g : D → D} : ∀ {ds : List D},
    (∀ d ∈ ds, ∃ e1 e2, mt d E = some e1 ∧ mc e1 = .ok (c d) e1 ∧ (c d = true → (me e1).bindN (toI np) = .ok (g d) e2 ∧ wipeE vs e2 = E) ∧ wipeE vs e1 = E) → lcLoop np vs mt mc me ds E = .ok ((ds.filter c).map g) E
  | [], _ => rfl
  | d :: ds, h => by
    obtain ⟨e1, e2, h1, h2, h3, h4⟩ := h d List.mem_cons_self
    have ih := lc_pure (ds := ds) fun x hx => h x (List.mem_cons_of_mem _ hx)
    unfold lcLoop
    rw [h1]
    dsimp only
    rw [h2, Res.bindN_ok]
    cases hc : c d with
    | false =>
      dsimp only
      rw [h4, ih, List.filter_cons_of_neg (by rw [hc]; exact Bool.false_ne_true)]
    | true =>
      dsimp only
      obtain ⟨h5, h6⟩ := h3 hc
      rw [h5, Res.bindN_ok, h6, ih, Res.bindN_ok, List.filter_cons_of_pos hc, List.map_cons]
/-- with a state: I holds of the frame's slots at every turn; each turn yields any list of at most one good thing -/
theorem lc_inv {np : Nat} {vs : List Nat} {mt : MT} {mc : M Bool} {me : M Rf} {I : En → Prop} {R : D → D → Prop} : ∀ {ds : List D} {E : En}, I E →
    (∀ d ∈ ds, ∀ E, I E → ∃ e1 k e2, mt d E = some e1 ∧ mc e1 = .ok k e2 ∧ (k = false → I (wipeE vs e2)) ∧ (k = true → ∃ y e3, (me e2).bindN (toI np) = .ok y e3 ∧ R d y ∧ I (wipeE vs e3))) →
    ∃ (ds' rs : List D) (E' : En), lcLoop np vs mt mc me ds E = .ok rs E' ∧ I E' ∧ ds'.Sublist ds ∧ Paired R ds' rs
  | [], E, hI, _ => ⟨[], [], E, rfl, hI, .slnil, .nil⟩
  | d :: ds, E, hI, h => by
    obtain ⟨e1, k, e2, h1, h2, h3, h4⟩ := h d List.mem_cons_self E hI
    have h' := fun x hx => h x (List.mem_cons_of_mem d hx)
    unfold lcLoop
    rw [h1]
    dsimp only
    rw [h2, Res.bindN_ok]
    cases k with
    | false =>
      obtain ⟨ds', rs, E', q1, q2, q3, q4⟩ := lc_inv (ds := ds) (h3 rfl) h'
      exact ⟨ds', rs, E', q1, q2, q3.cons d, q4⟩
    | true =>
      obtain ⟨y, e3, h5, h6, h7⟩ := h4 rfl
      obtain ⟨ds', rs, E', q1, q2, q3, q4⟩ := lc_inv (ds := ds) h7 h'
      refine ⟨d :: ds', y :: rs, E', ?_, q2, q3.cons_cons d, .cons h6 q4⟩
      dsimp only
      rw [h5, Res.bindN_ok, q1, Res.bindN_ok]
theorem loop_inv {mt : MT} {body : MS} {I : En → Prop} : ∀ {ds : List D} {e : En}, I e → (∀ d ∈ ds, ∀ e, I e → ∃ e1 e2, mt d e = some e1 ∧ (body e1 = .nx e2 ∨ body e1 = .ct e2) ∧ I e2) → ∃ e', loopS mt body ds e = .nx e' ∧ I e'
  | [], e, hI, _ => ⟨e, rfl, hI⟩
  | d :: ds, e, hI, h => by
    obtain ⟨e1, e2, h1, h2, h3⟩ := h d List.mem_cons_self e hI
    obtain ⟨e', q1, q2⟩ := loop_inv h3 fun x hx => h x (List.mem_cons_of_mem d hx)
    refine ⟨e', ?_, q2⟩
    unfold loopS
    rw [h1]
    dsimp only
    rcases h2 with h2 | h2
    · rw [h2]; exact q1
    · rw [h2]; exact q1
/-- a loop that folds -/
theorem loop_fold {σ : Type} {mt : MT} {body : MS} {E : σ → En → Prop} {f : σ → D → σ} : ∀ {ds : List D} {s : σ} {e : En}, E s e → (∀ d ∈ ds, ∀ s e, E s e → ∃ e1 e2, mt d e = some e1 ∧ (body e1 = .nx e2 ∨ body e1 = .ct e2) ∧ E (f s d) e2) → ∃ e', loopS mt body ds e = .nx e' ∧ E (ds.foldl f s) e'
  | [], s, e, hI, _ => ⟨e, rfl, hI⟩
  | d :: ds, s, e, hI, h => by
    obtain ⟨e1, e2, h1, h2, h3⟩ := h d List.mem_cons_self s e hI
    obtain ⟨e', q1, q2⟩ := loop_fold h3 fun x hx => h x (List.mem_cons_of_mem d hx)
    refine ⟨e', ?_, q2⟩
    unfold loopS
    rw [h1]
    dsimp only
    rcases h2 with h2 | h2
    · rw [h2]; exact q1
    · rw [h2]; exact q1

/-! ### tuples of ints -/
def tI (xs : List Int) : D := .tuple (xs.map .int)
theorem lay_ints : ∀ xs : List Int, PyData.canLayAll0 (xs.map .int) = true
  | [] => by simp [PyData.canLayAll0]
  | x :: r => by
    rw [List.map_cons, PyData.canLayAll0, lay_ints r]
    simp [PyData.canLay0]
theorem depth_ints : ∀ xs : List Int, PyData.depthAll (xs.map .int) = 0
  | [] => by simp [PyData.depthAll]
  | x :: r => by
    rw [List.map_cons, PyData.depthAll, depth_ints r]
    simp [PyData.depth]
@[simp] theorem nice_tI (xs : List Int) : nice (tI xs) = true := by
  unfold nice SeqAt.shaped tI
  rw [PyData.canLay0, lay_ints, PyData.depth, depth_ints]
  decide
@[simp] theorem nice_int (i : Int) : nice (.int i) = true := by
  unfold nice SeqAt.shaped
  rw [PyData.canLay0, PyData.depth]
  decide
@[simp] theorem eqv_tI (xs ys : List Int) : PyData.eqv (tI xs) (tI ys) = decide (xs = ys) := by
  have h := PySem.W.Datum.eqv (α := PySem.W.Tup Int) ⟨xs⟩ ⟨ys⟩
  have e : ((⟨xs⟩ : PySem.W.Tup Int) = ⟨ys⟩) ↔ xs = ys := ⟨fun e => congrArg PySem.W.Tup.items e, fun e => by rw [e]⟩
  exact h.trans (decide_eq_decide.mpr e)
@[simp] theorem eqv_int (i j : Int) : PyData.eqv (.int i) (.int j) = decide (i = j) := PySem.W.Datum.eqv (α := Int) i j
theorem any_int (xs : List Int) (x : Int) : ((xs.map PyData.int).any fun y => PyData.eqv y (.int x)) = decide (x ∈ xs) := PySem.W.any_datum (α := Int) xs x
@[simp] theorem gEq_int (i j : Int) : gEq (.im (.int i)) (.im (.int j)) = some (.im (.bool (decide (i = j)))) := by simp [gEq, content]
@[simp] theorem gNe_int (i j : Int) : gNe (.im (.int i)) (.im (.int j)) = some (.im (.bool (!decide (i = j)))) := by simp [gNe, content]
@[simp] theorem gEq_tI (xs ys : List Int) : gEq (.im (tI xs)) (.im (tI ys)) = some (.im (.bool (decide (xs = ys)))) := by simp [gEq, content]
@[simp] theorem gNe_tI (xs ys : List Int) : gNe (.im (tI xs)) (.im (tI ys)) = some (.im (.bool (!decide (xs = ys)))) := by simp [gNe, content]
theorem gIn_tI (i : Int) (xs : List Int) : gIn (.im (.int i)) (.im (tI xs)) = some (.im (.bool (decide (i ∈ xs)))) := by
  unfold gIn tI
  simp only [content, items, nice_int, lay_ints, and_self, if_true, any_int]
theorem gNotIn_tI (i : Int) (xs : List Int) : gNotIn (.im (.int i)) (.im (tI xs)) = some (.im (.bool (!decide (i ∈ xs)))) := by
  unfold gNotIn tI
  simp only [content, items, nice_int, lay_ints, and_self, if_true, any_int]
end PL

set_option maxRecDepth 100000
namespace TL
open PySem PySem.Spec L2 PL

/-! ### states -/
/-- a value that a script's text can write: no dict -/
def ordD (d : D) : Bool := (tyOf (.im d)).isSome
def isInt (d : D) (lo hi : Int) : Bool := match d with
  | .int i => decide (lo ≤ i) && decide (i ≤ hi)
  | _ => false
@[simp] theorem isInt_int (i lo hi : Int) : isInt (.int i) lo hi = (decide (lo ≤ i) && decide (i ≤ hi)) := rfl
theorem is_integer_eq {d : D} (h : ordD d = true) (lo hi : Int) : f_is_integer [.im d, .im (.int lo), .im (.int hi)] = .ok (.im (.bool (isInt d lo hi))) [] := by
  unfold f_is_integer fnOf m_is_integer
  cases d with
  | dict k => cases h
  | int i =>
    by_cases h : lo ≤ i
    · simp [mVar, tyOf, isT, mChain, h, outsOf]
    · simp [mVar, tyOf, isT, mChain, h, outsOf]
  | none => simp [mVar, tyOf, isT, isInt, outsOf]
  | bool b => simp [mVar, tyOf, isT, isInt, outsOf]
  | str b => simp [mVar, tyOf, isT, isInt, outsOf]
  | list b => simp [mVar, tyOf, isT, isInt, outsOf]
  | tuple b => simp [mVar, tyOf, isT, isInt, outsOf]
/-- a call whose arguments are plain -/
theorem call1 {np : Nat} {f : Fn} {a : D} {r : D} {env : En} (h : f [.im a] = .ok (.im r) []) : callS np [false] f [.im a] env = .ok (.im r) env := by
  simp [callS, shareArgs, ioVars, fillArgs, h, retRf, writeBack]
theorem call2 {np : Nat} {f : Fn} {a b : D} {r : D} {env : En} (h : f [.im a, .im b] = .ok (.im r) []) : callS np [false, false] f [.im a, .im b] env = .ok (.im r) env := by
  simp [callS, shareArgs, ioVars, fillArgs, h, retRf, writeBack]
theorem call3 {np : Nat} {f : Fn} {a b c : D} {r : D} {env : En} (h : f [.im a, .im b, .im c] = .ok (.im r) []) : callS np [false, false, false] f [.im a, .im b, .im c] env = .ok (.im r) env := by
  simp [callS, shareArgs, ioVars, fillArgs, h, retRf, writeBack]
/-- .. that hands back a new object -/
theorem call1T {np : Nat} {f : Fn} {a : D} {ds : List D} {env : En} (h : f [.im a] = .ok (.ol ds) []) : callS np [false] f [.im a] env = .ok (.tmp (.ol ds)) env := by
  simp [callS, shareArgs, ioVars, fillArgs, h, retRf, writeBack]
theorem call2T {np : Nat} {f : Fn} {a b : D} {ds : List D} {env : En} (h : f [.im a, .im b] = .ok (.ol ds) []) : callS np [false, false] f [.im a, .im b] env = .ok (.tmp (.ol ds)) env := by
  simp [callS, shareArgs, ioVars, fillArgs, h, retRf, writeBack]
theorem is_size_eq {d : D} (h : ordD d = true) : f_is_size [.im d] = .ok (.im (.bool (isInt d 1 16))) [] := by
  unfold f_is_size fnOf m_is_size
  simp [mVar, call3 (is_integer_eq h 1 16), outsOf]
theorem require_size_eq {n : Int} (h : 1 ≤ n) (h2 : n ≤ 16) : f_require_size [.im (.int n)] = .ok (.im .none) [] := by
  unfold f_require_size fnOf m_require_size
  simp [mVar, call1 (is_size_eq (d := .int n) rfl), truS, h, h2, outsOf]
@[simp] theorem boolsOf_map {α : Type} (f : α → Bool) : ∀ l : List α, boolsOf (l.map fun x => .bool (f x)) = some (l.map f)
  | [] => rfl
  | a :: r => by
    rw [List.map_cons, boolsOf, boolsOf_map f r]
    rfl
/-- a tuple whose items are ints of 1 .. n -/
def areItems (n : Int) (d : D) : Bool := match d with
  | .tuple ds => ds.all fun x => isInt x 1 n
  | _ => false
def ordAll (d : D) : Bool := match d with
  | .tuple ds => ds.all ordD
  | d => ordD d
theorem are_items_eq {n : Int} {d : D} (h : ordAll d = true) : f_are_items [.im (.int n), .im d] = .ok (.im (.bool (areItems n d))) [] := by
  unfold f_are_items fnOf m_are_items
  cases d with
  | dict k => cases h
  | tuple ds =>
    have h : ds.all ordD = true := h
    have lc : lcLoop 2 [2] (tName 2 2) mYes (mCall 2 [false, false, false] f_is_integer (mCons (mVar 2) (mCons (mK (.int 1)) (mCons (mVar 0) mNil)))) ds [.im (.int n), .im (.tuple ds), .no] = .ok ((ds.filter fun _ => true).map fun x => .bool (isInt x 1 n)) [.im (.int n), .im (.tuple ds), .no] := by
      refine lc_pure fun d hd => ⟨[.im (.int n), .im (.tuple ds), .im d], [.im (.int n), .im (.tuple ds), .im d], rfl, rfl, fun _ => ?_, rfl⟩
      simp [mVar, call3 (is_integer_eq (List.all_eq_true.mp h d hd) 1 n), wipeE]
    simp [mVar, tyOf, isT, wipeE, lc, gAll, outsOf, areItems, Function.comp_def]
  | int i => simp [mVar, tyOf, isT, areItems, outsOf]
  | none => simp [mVar, tyOf, isT, areItems, outsOf]
  | bool b => simp [mVar, tyOf, isT, areItems, outsOf]
  | str b => simp [mVar, tyOf, isT, areItems, outsOf]
  | list b => simp [mVar, tyOf, isT, areItems, outsOf]
/-- a right list of size n -/
structure Right (n : Int) (xs : List Int) : Prop where
  lo : 1 ≤ n
  hi : n ≤ 16
  mem : ∀ x ∈ xs, 1 ≤ x ∧ x ≤ n
  nd : xs.Nodup
theorem Right.len {n : Int} {xs : List Int} (h : Right n xs) : xs.length ≤ 16 := by
  have key : ∀ (k : Nat) (xs : List Int), xs.Nodup → (∀ x ∈ xs, 1 ≤ x ∧ x ≤ (k : Int)) → xs.length ≤ k := by
    intro k
    induction k with
    | zero =>
      intro xs _ hm
      cases xs with
      | nil => exact Nat.le_refl _
      | cons x r => have := hm x List.mem_cons_self; omega
    | succ k ih =>
      intro xs nd hm
      have h1 := ih (xs.erase ((k : Int) + 1)) (nd.erase _) fun x hx => by
        have hx' := (nd.mem_erase_iff).mp hx
        have := hm x hx'.2
        omega
      have h2 := List.length_erase (a := (k : Int) + 1) (l := xs)
      split at h2 <;> omega
  have := key n.toNat xs h.nd fun x hx => by
    have h1 := h.mem x hx
    have h2 := h.lo
    omega
  have := h.hi
  omega
def stD (n : Int) (xs : List Int) : D := .tuple [.int n, tI xs]
theorem ordAll_tI (xs : List Int) : ordAll (tI xs) = true := by
  unfold ordAll tI
  simp only [List.all_map, List.all_eq_true]
  intro x _
  rfl
theorem areItems_tI (n : Int) (xs : List Int) : areItems n (tI xs) = xs.all fun x => decide (1 ≤ x) && decide (x ≤ n) := by
  show (xs.map PyData.int).all (fun x => isInt x 1 n) = _
  rw [List.all_map]
  rfl
theorem Right.items {n : Int} {xs : List Int} (h : Right n xs) : areItems n (tI xs) = true := by
  rw [areItems_tI, List.all_eq_true]
  intro x hx
  have := h.mem x hx
  simp [this.1, this.2]
theorem dedup_nodup : ∀ {l : List Int}, l.Nodup → dedupI l = l
  | [], _ => rfl
  | a :: r, h => by
    obtain ⟨h1, h2⟩ := List.nodup_cons.mp h
    unfold dedupI
    rw [if_neg h1, dedup_nodup h2]
theorem is_chosen_eq {n : Int} {xs : List Int} (h : Right n xs) : f_is_chosen [.im (.int n), .im (tI xs)] = .ok (.im (.bool true)) [] := by
  have hl := h.len
  have q := are_items_eq (n := n) (ordAll_tI xs)
  rw [h.items] at q
  unfold f_is_chosen fnOf m_is_chosen
  unfold tI at q ⊢
  simp [mVar, call2 q, mSetI, intsOf_of, show xs.length < 64 by omega, dedup_nodup h.nd, outsOf]
theorem is_state_eq {n : Int} {xs : List Int} (h : Right n xs) : f_is_state [.im (stD n xs)] = .ok (.im (.bool true)) [] := by
  unfold f_is_state fnOf m_is_state stD
  simp [mVar, tyOf, isT, call1 (is_size_eq (d := .int n) rfl), call2 (is_chosen_eq h), h.lo, h.hi, outsOf]
theorem require_state_eq {n : Int} {xs : List Int} (h : Right n xs) : f_require_state [.im (stD n xs)] = .ok (.im .none) [] := by
  unfold f_require_state fnOf m_require_state
  simp [mVar, call1 (is_state_eq h), truS, outsOf]
end TL

set_option maxRecDepth 100000
namespace TL
open PySem PySem.Spec L2 PL

/-! ### draws -/
def bagS (a b : Int) : Sl := .ol [.int a, .int b]
theorem take_ex (a b n : Int) (h0 : 0 < n) (h1 : n < 1073741824) : ∃ r a' b', 0 ≤ r ∧ r < n ∧ f__law_take [bagS a b, .im (.int n)] = .ok (.im (.int r)) [bagS a' b'] := by
  unfold f__law_take fnOf m__law_take bagS
  by_cases ha : a > 0
  · refine ⟨a % n, a / n, b, Int.emod_nonneg _ (by omega), Int.emod_lt_of_pos _ h0, ?_⟩
    simp [mVar, opv2, view, gGt, ha, gMod_int h0, gDiv_int h0 h1, sStore, setSl, Sl.own, sSetIx, M.bind, ixN, outsOf]
  · refine ⟨((b * 48271 % 2147483647) / 13 * ((b * 48271 % 2147483647) % 32749 + 17) % 2147483629 / 32) % n, a, b * 48271 % 2147483647, Int.emod_nonneg _ (by omega), Int.emod_lt_of_pos _ h0, ?_⟩
    have e1 : gMul (.im (.int b)) (.im (.int 48271)) = some (.im (.int (b * 48271))) := gMul_intR (by decide) (by decide)
    have e2 : gMod (.im (.int (b * 48271))) (.im (.int 2147483647)) = some (.im (.int (b * 48271 % 2147483647))) := gMod_int (by decide)
    generalize hc : b * 48271 % 2147483647 = c at *
    have c0 : 0 ≤ c := by omega
    have c1 : c < 2147483647 := by omega
    have e3 : gDiv (.im (.int c)) (.im (.int 13)) = some (.im (.int (c / 13))) := gDiv_int (by decide) (by decide)
    have e4 : gMod (.im (.int c)) (.im (.int 32749)) = some (.im (.int (c % 32749))) := gMod_int (by decide)
    have e5 : gMul (.im (.int (c / 13))) (.im (.int (c % 32749 + 17))) = some (.im (.int (c / 13 * (c % 32749 + 17)))) := gMul_intR (by omega) (by omega)
    have e6 : ∀ i : Int, gMod (.im (.int i)) (.im (.int 2147483629)) = some (.im (.int (i % 2147483629))) := fun i => gMod_int (by decide)
    have e7 : ∀ i : Int, gDiv (.im (.int i)) (.im (.int 32)) = some (.im (.int (i / 32))) := fun i => gDiv_int (by decide) (by decide)
    simp [mVar, opv2, view, gGt, ha, e1, e2, e3, e4, e5, e6, e7, gMod_int h0, sStore, setSl, Sl.own, sSetIx, M.bind, ixN, outsOf]
/-- a call of a def that changes the bag, the bag in slot j -/
theorem callB {np j : Nat} {f : Fn} {x r : D} {bag bag' : Sl} {env : En} (hj : env[j]? = some bag) (ho : bag.own = true) (h : f [bag, .im x] = .ok (.im r) [bag']) : callS np [true, false] f [.var j, .im x] env = .ok (.im r) (env.set j bag') := by
  have n : bag ≠ .no := by rintro rfl; cases ho
  simp [callS, shareArgs, ioVars, fillArgs, ownOf, hj, ho, h, retRf, PL.writeBack]
theorem take_call {np j : Nat} {a b n : Int} {env : En} (hj : env[j]? = some (bagS a b)) (h0 : 0 < n) (h1 : n < 1073741824) : ∃ r a' b', 0 ≤ r ∧ r < n ∧ callS np [true, false] f__law_take [.var j, .im (.int n)] env = .ok (.im (.int r)) (env.set j (bagS a' b')) := by
  obtain ⟨r, a', b', h2, h3, h4⟩ := take_ex a b n h0 h1
  exact ⟨r, a', b', h2, h3, callB hj rfl h4⟩
theorem atI_in {α : Type} {ds : List α} {r : Int} (h0 : 0 ≤ r) (h : r < ds.length) : ∃ x, x ∈ ds ∧ L2.atI ds r = some x := by
  have hr : r.toNat < ds.length := by omega
  refine ⟨ds[r.toNat], List.getElem_mem hr, ?_⟩
  have q := atI_nat ds r.toNat
  rw [show ((r.toNat : Nat) : Int) = r by omega] at q
  rw [q]
  exact List.getElem?_eq_getElem hr
theorem of_ex (a b : Int) (d : D) (ds : List D) (hd : d = .list ds ∨ d = .tuple ds) (h0 : ds ≠ []) (h1 : ds.length < 1073741824) : ∃ x a' b', x ∈ ds ∧ f__law_of [bagS a b, .im d] = .ok (.im x) [bagS a' b'] := by
  have hp : 0 < ds.length := List.length_pos_iff.mpr h0
  obtain ⟨r, a', b', h2, h3, h4⟩ := take_ex a b ds.length (by omega) (by omega)
  obtain ⟨x, hx, at_⟩ := atI_in h2 h3
  refine ⟨x, a', b', hx, ?_⟩
  have hc : ∀ env : En, env[0]? = some (bagS a b) → callS 2 [true, false] f__law_take [.var 0, .im (.int ds.length)] env = .ok (.im (.int r)) (env.set 0 (bagS a' b')) := fun env he => callB he rfl h4
  unfold f__law_of fnOf m__law_of
  rcases hd with rfl | rfl
  · simp [mVar, bagS] at hc ⊢
    simp [hc, at_, outsOf]
  · simp [mVar, bagS] at hc ⊢
    simp [hc, at_, outsOf]
theorem of_call {np j : Nat} {a b : Int} {d : D} {ds : List D} {env : En} (hj : env[j]? = some (bagS a b)) (hd : d = .list ds ∨ d = .tuple ds) (h0 : ds ≠ []) (h1 : ds.length < 1073741824) : ∃ x a' b', x ∈ ds ∧ callS np [true, false] f__law_of [.var j, .im d] env = .ok (.im x) (env.set j (bagS a' b')) := by
  obtain ⟨x, a', b', h2, h3⟩ := of_ex a b d ds hd h0 h1
  exact ⟨x, a', b', h2, callB hj rfl h3⟩

/-! ### the bag -/
theorem pow_ex (n : Nat) (h : n ≤ 1000) : ∃ P : Int, 0 < P ∧ gPow (.im (.int 10)) (.im (.int (n : Nat))) = some (.im (.int P)) := by
  refine ⟨10 ^ n, Int.pow_pos (by decide), ?_⟩
  have e : ((n : Int)).toNat = n := Int.toNat_natCast n
  unfold gPow
  dsimp only
  rw [if_pos ⟨by omega, by omega, by decide⟩, e]
def bagM (M U V : Sl → Sl → Option Rf) : MS := (sSeq (sSet 2 2 (mK (.int 0)))
    (sSeq (sIf (mB (mOp2 gLt (mVar 1) (mCB gLen (mCons (mVar 0) mNil))))
    (sSet 2 2 (mOp2 M (mOp2 gIx (mVar 0) (mVar 1)) (mOp2 V (mK (.int 10)) (mK (.int 60)))))
    sNext)
    (sSeq (sSet 2 3 (mOp2 gAdd (mK (.int 1)) (mOp2 M (mOp2 gAdd (mOp2 gAdd (mOp2 gAdd (mOp2 U (mOp2 M (mVar 2) (mK (.int 2147483629))) (mK (.int 16807))) (mOp2 U (mOp2 U (mK (.int 40009)) (mVar 1)) (mVar 1))) (mOp2 U (mK (.int 7919)) (mVar 1))) (mK (.int 1009))) (mK (.int 2147483645)))))
    (sSeq (sIf (mB (mOp2 gLt (mVar 2) (mOp2 V (mK (.int 10)) (mK (.int 18)))))
    (sRet 2 (mLst 2 (mCons (mK (.int 0)) (mCons (mVar 3) mNil))))
    sNext)
    (sRet 2 (mLst 2 (mCons (mVar 2) (mCons (mVar 3) mNil))))))))
theorem bag_gen (ns : List Int) (k : Nat) (M U V : Sl → Sl → Option Rf) (g1 g2 g3 g4 g7 : Int → Int) (P Q : Int) (e1 : ∀ i : Int, M (.im (.int i)) (.im (.int 2147483629)) = some (.im (.int (g1 i))))
    (e2 : ∀ i : Int, U (.im (.int i)) (.im (.int 16807)) = some (.im (.int (g2 i)))) (e3 : ∀ i : Int, U (.im (.int i)) (.im (.int k)) = some (.im (.int (g3 i)))) (e4 : ∀ i : Int, M (.im (.int i)) (.im (.int 2147483645)) = some (.im (.int (g4 i))))
    (e5 : V (.im (.int 10)) (.im (.int 18)) = some (.im (.int Q))) (e6 : V (.im (.int 10)) (.im (.int 60)) = some (.im (.int P))) (e7 : ∀ i : Int, M (.im (.int i)) (.im (.int P)) = some (.im (.int (g7 i)))) :
    ∃ a b, fnOf [false, false] 4 (bagM M U V) [scrS ns, .im (.int k)] = .ok (bagS a b) [] := by
  unfold fnOf bagM scrS bagS
  by_cases hk : (k : Int) < ns.length
  · obtain ⟨x, hx, at_⟩ := atI_in (ds := ns.map PyData.int) (r := k) (by omega) (by rw [List.length_map]; exact hk)
    obtain ⟨z, _, rfl⟩ := List.mem_map.mp hx
    by_cases hc : g7 z < Q
    · simp [mVar, hk, at_, e1, e2, e3, e4, e5, e6, e7, hc, sStore, setSl, Sl.own, outsOf]
    · simp [mVar, hk, at_, e1, e2, e3, e4, e5, e6, e7, hc, sStore, setSl, Sl.own, outsOf]
  · by_cases hc : 0 < Q
    · simp [mVar, hk, e1, e2, e3, e4, e5, e6, e7, hc, sStore, setSl, Sl.own, outsOf]
    · simp [mVar, hk, e1, e2, e3, e4, e5, e6, e7, hc, sStore, setSl, Sl.own, outsOf]
theorem bag_ex (ns : List Int) (k : Nat) (h1 : k < 1000) : ∃ a b, f__law_bag [scrS ns, .im (.int k)] = .ok (bagS a b) [] := by
  obtain ⟨Q, _, e5⟩ := pow_ex 18 (by decide)
  obtain ⟨P, hP, e6⟩ := pow_ex 60 (by decide)
  exact bag_gen ns k gMod gMul gPow _ _ _ _ _ P Q (fun i => gMod_int (by decide)) (fun i => gMul_intR (by decide) (by decide)) (fun i => gMul_intR (by omega) (by omega)) (fun i => gMod_int (by decide)) e5 e6 (fun i => gMod_int hP)
end TL

set_option maxRecDepth 100000
namespace PL
open PySem PySem.Spec L2
/-- a loop, turn by turn -/
theorem loop_ix {mt : MT} {body : MS} {E : Nat → En → Prop} (ds : List D) {e : En} (h0 : E 0 e) (h : ∀ (i : Nat) d e, ds[i]? = some d → E i e → ∃ e1 e2, mt d e = some e1 ∧ (body e1 = .nx e2 ∨ body e1 = .ct e2) ∧ E (i + 1) e2) : ∃ e', loopS mt body ds e = .nx e' ∧ E ds.length e' := by
  have go : ∀ (n i : Nat) (e : En), n = ds.length - i → i ≤ ds.length → E i e → ∃ e', loopS mt body (ds.drop i) e = .nx e' ∧ E ds.length e' := by
    intro n
    induction n with
    | zero =>
      intro i e hn hi hE
      have ei : i = ds.length := by omega
      subst ei
      rw [List.drop_length]
      exact ⟨e, rfl, hE⟩
    | succ n ih =>
      intro i e hn hi hE
      have hlt : i < ds.length := by omega
      have hd : ds[i]? = some ds[i] := List.getElem?_eq_getElem hlt
      obtain ⟨e1, e2, h1, h2, h3⟩ := h i ds[i] e hd hE
      rw [drop_cons hd]
      unfold loopS
      rw [h1]
      dsimp only
      obtain ⟨e', q1, q2⟩ := ih (i + 1) e2 (by omega) hlt h3
      refine ⟨e', ?_, q2⟩
      rcases h2 with h2 | h2
      · rw [h2]; exact q1
      · rw [h2]; exact q1
  have := go ds.length 0 e (by omega) (Nat.zero_le _) h0
  rwa [List.drop_zero] at this
theorem rangeD_length (lo : Int) (n : Nat) : (rangeD lo n).length = n := by unfold rangeD; rw [List.length_map, List.length_range]
theorem rangeD_get {lo : Int} {n i : Nat} {d : D} (h : (rangeD lo n)[i]? = some d) : i < n ∧ d = .int (lo + i) := by
  have hi : i < n := by
    have := (List.getElem?_eq_some_iff.mp h).1
    rwa [rangeD_length] at this
  refine ⟨hi, ?_⟩
  unfold rangeD at h
  rw [List.getElem?_map, List.getElem?_range hi] at h
  simpa using h.symm
/-- 1 .. n -/
def ups (n : Int) : List Int := (List.range n.toNat).map fun (i : Nat) => (1 : Int) + (i : Int)
theorem rangeD_ups (n : Int) : rangeD 1 (n + 1 - 1).toNat = (ups n).map .int := by
  unfold rangeD ups
  rw [List.map_map, show n + 1 - 1 = n by omega]
  rfl
theorem mem_ups {n x : Int} : x ∈ ups n ↔ 1 ≤ x ∧ x ≤ n := by
  unfold ups
  rw [List.mem_map]
  constructor
  · rintro ⟨i, hi, rfl⟩
    rw [List.mem_range] at hi
    omega
  · intro h
    exact ⟨(x - 1).toNat, by rw [List.mem_range]; omega, by omega⟩
theorem ups_sorted (n : Int) : (ups n).Pairwise (· < ·) := by
  unfold ups
  rw [List.pairwise_map]
  exact (List.pairwise_lt_range (n := n.toNat)).imp fun h => by omega
theorem ups_nodup (n : Int) : (ups n).Nodup := (ups_sorted n).imp fun h e => by omega
theorem ups_length (n : Int) : (ups n).length = n.toNat := by unfold ups; rw [List.length_map, List.length_range]
end PL
namespace TL
open PySem PySem.Spec L2 PL
@[simp] theorem callT1 (np : Nat) (f : Fn) (ds : List D) (env : En) : callS np [false] f [.tmp (.ol ds)] env = callS np [false] f [.im (.list ds)] env := rfl
theorem wb2 (x y z : Rf) (outs : List Sl) (env : En) : PL.writeBack [true, false] [x, y] outs env = PL.writeBack [true, false] [x, z] outs env := by
  cases outs with
  | nil => cases x <;> rfl
  | cons o r => cases x <;> (cases r <;> rfl)
theorem wb3 (x y z u : Rf) (outs : List Sl) (env : En) : PL.writeBack [true, false, false] [x, y, u] outs env = PL.writeBack [true, false, false] [x, z, u] outs env := by
  cases outs with
  | nil => cases x <;> rfl
  | cons o r => cases x <;> (cases r <;> rfl)
@[simp] theorem callT2a (np : Nat) (f : Fn) (x : Rf) (ds : List D) (env : En) : callS np [true, false] f [x, .tmp (.ol ds)] env = callS np [true, false] f [x, .im (.list ds)] env := by
  unfold callS
  simp only [wb2 x (.tmp (.ol ds)) (.im (.list ds))]
  cases x <;> rfl
@[simp] theorem callT2b (np : Nat) (f : Fn) (x : D) (ds : List D) (env : En) : callS np [false, false] f [.im x, .tmp (.ol ds)] env = callS np [false, false] f [.im x, .im (.list ds)] env := rfl
@[simp] theorem callT2c (np : Nat) (f : Fn) (x : D) (ds : List D) (env : En) : callS np [false, false] f [.tmp (.ol ds), .im x] env = callS np [false, false] f [.im (.list ds), .im x] env := rfl
@[simp] theorem callT3a (np : Nat) (f : Fn) (x : Rf) (y : D) (ds : List D) (env : En) : callS np [true, false, false] f [x, .tmp (.ol ds), .im y] env = callS np [true, false, false] f [x, .im (.list ds), .im y] env := by
  unfold callS
  simp only [wb3 x (.tmp (.ol ds)) (.im (.list ds)) (.im y)]
  cases x <;> rfl
theorem ixN_in {n : Nat} {i : Int} (h0 : 0 ≤ i) (h : i < n) : ixN n i = some i.toNat := by
  unfold ixN
  rw [if_pos h0, if_pos h]
theorem erase_int : ∀ (ms : List Int) (k : Nat), (ms.map PyData.int).eraseIdx k = (ms.eraseIdx k).map .int
  | [], _ => rfl
  | _ :: _, 0 => rfl
  | m :: r, k + 1 => by
    show PyData.int m :: (r.map PyData.int).eraseIdx k = PyData.int m :: (r.eraseIdx k).map .int
    rw [erase_int r k]
theorem list_turn (n : Int) (a b : Int) (ms xs : List Int) (d : D) (hm : ms ≠ []) (hl : ms.length ≤ 16) (hx : xs.length ≤ 16) : ∃ (k : Nat) (y a' b' : Int), ms[k]? = some y ∧
    sSet 2 3 (mOp2 gAdd (mVar 3) (mTup 2 (mCons (mPopAt 2 (mCall 2 [true, false] TL.f__law_of (mCons (mVar 0) (mCons (mLst 2 (mCons (mK (.int 0)) (mCons (mCall 2 [true, false] TL.f__law_take (mCons (mVar 0) (mCons (mCB gLen (mCons (mVar 2) mNil)) mNil))) mNil))) mNil)))) mNil))) [bagS a b, .im (.int n), .ol (ms.map .int), .im (tI xs), .im d]
      = .nx [bagS a' b', .im (.int n), .ol ((ms.eraseIdx k).map .int), .im (tI (xs ++ [y])), .im d] := by
  have hp := List.length_pos_iff.mpr hm
  obtain ⟨r, a1, b1, h1, h2, h3⟩ := take_call (np := 2) (j := 0) (n := (ms.length : Nat)) (env := [bagS a b, .im (.int n), .ol (ms.map .int), .im (tI xs), .im d]) rfl (by omega) (by omega)
  obtain ⟨x, a2, b2, h4, h5⟩ := of_call (np := 2) (j := 0) (d := .list [.int 0, .int r]) (ds := [.int 0, .int r]) (env := [bagS a1 b1, .im (.int n), .ol (ms.map .int), .im (tI xs), .im d]) rfl (.inl rfl) (by simp) (by simp)
  obtain ⟨z, rfl, hz0, hz1⟩ : ∃ z : Int, x = .int z ∧ 0 ≤ z ∧ z < ms.length := by
    simp at h4
    rcases h4 with rfl | rfl
    · exact ⟨0, rfl, by omega, by omega⟩
    · exact ⟨r, rfl, h1, h2⟩
  have hk : z.toNat < ms.length := by omega
  refine ⟨z.toNat, ms[z.toNat], a2, b2, List.getElem?_eq_getElem hk, ?_⟩
  have e1 : ((ms.map PyData.int).eraseIdx z.toNat) = (ms.eraseIdx z.toNat).map .int := by exact erase_int ms z.toNat
  have e2 : (ms.map PyData.int)[z.toNat]? = some (.int ms[z.toNat]) := by rw [List.getElem?_map, List.getElem?_eq_getElem hk]; rfl
  have e3 : tI (xs ++ [ms[z.toNat]]) = .tuple (xs.map .int ++ [.int ms[z.toNat]]) := by unfold tI; rw [List.map_append]; rfl
  have e4 : xs.length + 1 ≤ sizeLine := by rw [sizeLine_eq]; omega
  rw [e3]
  unfold tI bagS at *
  have e5 : ixN ms.length z = some z.toNat := ixN_in hz0 hz1
  simp at h3 h5
  simp [mVar, opv2, view, h3, h5, mPopAt, e5, e2, e1, gAdd, e4, sStore, setSl, Sl.own]
theorem erase_perm : ∀ {l : List Int} {k : Nat} {y : Int}, l[k]? = some y → (y :: l.eraseIdx k).Perm l
  | [], _, _, h => by simp at h
  | a :: r, 0, y, h => by simp at h; subst h; exact .refl _
  | a :: r, k + 1, y, h => by
    have ih := erase_perm (l := r) (k := k) (y := y) (by simpa using h)
    exact (List.Perm.swap a y _).trans (ih.cons a)
theorem list_ex (a b n : Int) (h0 : 1 ≤ n) (h1 : n ≤ 16) : ∃ xs a' b', Right n xs ∧ f__law_list [bagS a b, .im (.int n)] = .ok (.im (tI xs)) [bagS a' b'] := by
  obtain ⟨r, a1, b1, h2, h3, h4⟩ := take_ex a b (n + 1) (by omega) (by omega)
  let E : Nat → En → Prop := fun i e => ∃ (a b : Int) (ms xs : List Int) (s : Sl), e = [bagS a b, .im (.int n), .ol (ms.map .int), .im (tI xs), s] ∧ s.own = false ∧ xs.length = i ∧ (ms ++ xs).Perm (ups n)
  have hE : ∀ i e, E i e ↔ ∃ (a b : Int) (ms xs : List Int) (s : Sl), e = [bagS a b, .im (.int n), .ol (ms.map .int), .im (tI xs), s] ∧ s.own = false ∧ xs.length = i ∧ (ms ++ xs).Perm (ups n) := fun _ _ => Iff.rfl
  obtain ⟨e', q1, q2⟩ := loop_ix (mt := tName 2 4) (body := sSet 2 3 (mOp2 gAdd (mVar 3) (mTup 2 (mCons (mPopAt 2 (mCall 2 [true, false] TL.f__law_of (mCons (mVar 0) (mCons (mLst 2 (mCons (mK (.int 0)) (mCons (mCall 2 [true, false] TL.f__law_take (mCons (mVar 0) (mCons (mCB gLen (mCons (mVar 2) mNil)) mNil))) mNil))) mNil)))) mNil))))
    (E := E) (rangeD 0 r.toNat) (e := [bagS a1 b1, .im (.int n), .ol ((ups n).map .int), .im (tI []), .no]) ((hE _ _).mpr ⟨a1, b1, ups n, [], .no, rfl, rfl, rfl, by rw [List.append_nil]⟩) fun i d e hd he => by
      obtain ⟨hi, rfl⟩ := rangeD_get hd
      obtain ⟨a2, b2, ms, xs, s, rfl, hs, hx, pm⟩ := (hE _ _).mp he
      have hl := pm.length_eq
      rw [List.length_append, ups_length] at hl
      have hm : ms ≠ [] := by rintro rfl; simp at hl; omega
      obtain ⟨k, y, a3, b3, hk, q⟩ := list_turn n a2 b2 ms xs (.int (0 + (i : Nat))) hm (by omega) (by omega)
      refine ⟨[bagS a2 b2, .im (.int n), .ol (ms.map .int), .im (tI xs), .im (.int (0 + (i : Nat)))], _, ?_, .inl q, (hE _ _).mpr ⟨a3, b3, ms.eraseIdx k, xs ++ [y], _, rfl, rfl, by simp [hx], ?_⟩⟩
      · simp [tName, setSl, hs]
      · have p1 := erase_perm hk
        have p2 : (ms.eraseIdx k ++ (xs ++ [y])).Perm ((y :: ms.eraseIdx k) ++ xs) := by
          rw [← List.append_assoc]
          exact (List.perm_append_comm).trans (by simp)
        exact (p2.trans (p1.append_right xs)).trans pm
  obtain ⟨a2, b2, ms, xs, s, rfl, hs, hx, pm⟩ := (hE _ _).mp q2
  refine ⟨xs, a2, b2, ⟨h0, h1, fun x hx => mem_ups.mp (pm.mem_iff.mp (List.mem_append_right _ hx)), ?_⟩, ?_⟩
  · have nd := (pm.nodup_iff).mpr (ups_nodup n)
    exact (List.nodup_append.mp nd).2.1
  · have hc : ∀ env : En, env[0]? = some (bagS a b) → callS 2 [true, false] f__law_take [.var 0, .im (.int (n + 1))] env = .ok (.im (.int r)) (env.set 0 (bagS a1 b1)) := fun env he => callB he rfl h4
    have e1 : (-1000000 ≤ (1 : Int) ∧ (1 : Int) ≤ 1000000) ∧ -1000000 ≤ n + 1 ∧ n + 1 ≤ 1000000 := by omega
    have e2 : r ≤ 1000000 ∧ -1000000 ≤ r := by omega
    have e3 : rangeD 1 n.toNat = (ups n).map .int := by rw [← rangeD_ups, show n + 1 - 1 = n by omega]
    unfold f__law_list fnOf m__law_list
    generalize sSet 2 3 _ = body at q1 ⊢
    unfold bagS tI at *
    simp [hs] at q1 hc
    simp [mVar, mRgL, mRng1, e1, e2, e3, rfL, setSl, Sl.own, hc, q1, outsOf]
theorem state_ex (a b m : Int) (h0 : 1 ≤ m) (h1 : m ≤ 16) : ∃ n xs a' b', Right n xs ∧ n ≤ m ∧ f__law_state [bagS a b, .im (.int m)] = .ok (.im (stD n xs)) [bagS a' b'] := by
  obtain ⟨r, a1, b1, h2, h3, h4⟩ := take_ex a b m (by omega) (by omega)
  obtain ⟨xs, a2, b2, h5, h6⟩ := list_ex a1 b1 (1 + r) (by omega) (by omega)
  refine ⟨1 + r, xs, a2, b2, h5, by omega, ?_⟩
  have c1 : ∀ env : En, env[0]? = some (bagS a b) → callS 2 [true, false] f__law_take [.var 0, .im (.int m)] env = .ok (.im (.int r)) (env.set 0 (bagS a1 b1)) := fun env he => callB he rfl h4
  have c2 : ∀ env : En, env[0]? = some (bagS a1 b1) → callS 2 [true, false] f__law_list [.var 0, .im (.int (1 + r))] env = .ok (.im (tI xs)) (env.set 0 (bagS a2 b2)) := fun env he => callB he rfl h6
  unfold f__law_state fnOf m__law_state
  unfold bagS stD at *
  try simp at c1 c2
  simp [mVar, c1, c2, sStore, setSl, Sl.own, outsOf]
/-- a call of a def that changes the bag, two further arguments -/
theorem callB3 {np j : Nat} {f : Fn} {x y r : D} {bag bag' : Sl} {env : En} (hj : env[j]? = some bag) (ho : bag.own = true) (h : f [bag, .im x, .im y] = .ok (.im r) [bag']) : callS np [true, false, false] f [.var j, .im x, .im y] env = .ok (.im r) (env.set j bag') := by
  have n : bag ≠ .no := by rintro rfl; cases ho
  simp [callS, shareArgs, ioVars, fillArgs, ownOf, hj, ho, h, retRf, PL.writeBack]
theorem paired_eq {rs ds : List D} (h : Paired (fun d y => y = d) ds rs) : rs = ds := by
  induction h with
  | nil => rfl
  | cons a _ ih => rw [a, ih]
theorem while_yes {mc : M Bool} {body : MS} {n : Nat} {e e1 e2 : En} (h : mc e = .ok true e1) (h2 : body e1 = .nx e2) : whileS mc body (n + 1) e = whileS mc body n e2 := by
  show (mc e).toSR _ = _
  rw [h, Res.toSR_ok]
  dsimp only
  rw [h2]
theorem while_no {mc : M Bool} {body : MS} {n : Nat} {e e1 : En} (h : mc e = .ok false e1) : whileS mc body (n + 1) e = .nx e1 := by
  show (mc e).toSR _ = _
  rw [h, Res.toSR_ok]
theorem some_ex (a b : Int) (L : List Int) (hL : L ≠ []) (hl : L.length ≤ 1000) : ∃ ys a' b', ys ≠ [] ∧ ys.Sublist L ∧ f__law_some [bagS a b, .im (.list (L.map .int)), .im (.int 1)] = .ok (.im (tI ys)) [bagS a' b'] := by
  let I : En → Prop := fun e => ∃ a b, e = [bagS a b, .im (.list (L.map .int)), .im (.int 1), .no, .no]
  have hI : ∀ e, I e ↔ ∃ a b, e = [bagS a b, .im (.list (L.map .int)), .im (.int 1), .no, .no] := fun _ => Iff.rfl
  obtain ⟨ds', rs, E', q1, q2, q3, q4⟩ := lc_inv (np := 3) (vs := [4]) (mt := tName 3 4) (mc := mB (mOp2 gEq (mCall 3 [true, false] TL.f__law_take (mCons (mVar 0) (mCons (mK (.int 2)) mNil))) (mK (.int 0)))) (me := mVar 4) (I := I) (R := fun d y => y = d) (ds := L.map .int) ((hI _).mpr ⟨a, b, rfl⟩)
    fun d hd E hE => by
      obtain ⟨a1, b1, rfl⟩ := (hI _).mp hE
      obtain ⟨z, _, rfl⟩ := List.mem_map.mp hd
      obtain ⟨r, a2, b2, h1, h2, h3⟩ := take_call (np := 3) (j := 0) (n := 2) (env := [bagS a1 b1, .im (.list (L.map .int)), .im (.int 1), .no, .im (.int z)]) rfl (by decide) (by decide)
      refine ⟨[bagS a1 b1, .im (.list (L.map .int)), .im (.int 1), .no, .im (.int z)], decide (r = 0), [bagS a2 b2, .im (.list (L.map .int)), .im (.int 1), .no, .im (.int z)], rfl, ?_, fun _ => (hI _).mpr ⟨a2, b2, rfl⟩, fun _ => ⟨.int z, [bagS a2 b2, .im (.list (L.map .int)), .im (.int 1), .no, .im (.int z)], rfl, rfl, (hI _).mpr ⟨a2, b2, rfl⟩⟩⟩
      unfold bagS at *
      simp at h3
      simp [mVar, h3]
  obtain ⟨a3, b3, rfl⟩ := (hI _).mp q2
  have e := paired_eq q4
  subst e
  obtain ⟨ys, hys, rfl⟩ : ∃ ys : List Int, ys.Sublist L ∧ rs = ys.map .int := by
    obtain ⟨ys, h1, h2⟩ := List.sublist_map_iff.mp q3
    exact ⟨ys, h1, h2⟩
  unfold f__law_some fnOf m__law_some
  by_cases hy : ys = []
  · subst hy
    obtain ⟨x, a4, b4, h4, h5⟩ := of_call (np := 3) (j := 0) (d := .list (L.map .int)) (ds := L.map .int) (env := [bagS a3 b3, .im (.list (L.map .int)), .im (.int 1), .ol [], .no]) rfl (.inl rfl) (by simpa using hL) (by rw [List.length_map]; omega)
    obtain ⟨z, hz, rfl⟩ := List.mem_map.mp h4
    refine ⟨[z], a4, b4, by simp, List.singleton_sublist.mpr hz, ?_⟩
    have w : whileS (mB (mOp2 gLt (mCB gLen (mCons (mVar 3) mNil)) (mVar 2))) (sSet 3 3 (mLst 3 (mCons (mCall 3 [true, false] TL.f__law_of (mCons (mVar 0) (mCons (mVar 1) mNil))) mNil))) 1000 [bagS a3 b3, .im (.list (L.map .int)), .im (.int 1), .ol [], .no] = .nx [bagS a4 b4, .im (.list (L.map .int)), .im (.int 1), .ol [.int z], .no] := by
      unfold bagS at *
      try simp at h5
      rw [while_yes (e1 := [.ol [.int a3, .int b3], .im (.list (L.map .int)), .im (.int 1), .ol [], .no]) (e2 := [.ol [.int a4, .int b4], .im (.list (L.map .int)), .im (.int 1), .ol [.int z], .no]) (by simp [mVar, view]) (by simp [mVar, h5, sStore, setSl, Sl.own])]
      exact while_no (by simp [mVar, view])
    generalize whileS _ _ _ = ww at w ⊢
    unfold bagS tI at *
    try simp at q1
    simp [mVar, wipeE, q1, sStore, setSl, Sl.own, w, view, gTuple, items, outsOf]
  · refine ⟨ys, a3, b3, hy, hys, ?_⟩
    have hp := List.length_pos_iff.mpr hy
    have w : whileS (mB (mOp2 gLt (mCB gLen (mCons (mVar 3) mNil)) (mVar 2))) (sSet 3 3 (mLst 3 (mCons (mCall 3 [true, false] TL.f__law_of (mCons (mVar 0) (mCons (mVar 1) mNil))) mNil))) 1000 [bagS a3 b3, .im (.list (L.map .int)), .im (.int 1), .ol (ys.map .int), .no] = .nx [bagS a3 b3, .im (.list (L.map .int)), .im (.int 1), .ol (ys.map .int), .no] := by
      unfold bagS at *
      exact while_no (by simp [mVar, view, show ¬ ((ys.length : Int) < 1) by omega])
    generalize whileS _ _ _ = ww at w ⊢
    unfold bagS tI at *
    try simp at q1
    simp [mVar, wipeE, q1, sStore, setSl, Sl.own, w, view, gTuple, items, outsOf]
/-- an operation -/
structure Act where
  add : Bool
  items : List Int
def wordS (k : Bool) : Str := if k then "add" else "remove"
def actD (o : Act) : D := .tuple [.str (wordS o.add), tI o.items]
structure GoodAct (n : Int) (o : Act) : Prop where
  ne : o.items ≠ []
  mem : ∀ x ∈ o.items, 1 ≤ x ∧ x ≤ n
  asc : o.items.Pairwise (· < ·)
theorem step_ex (a b n : Int) (h0 : 1 ≤ n) (h1 : n ≤ 16) : ∃ o a' b', GoodAct n o ∧ f__law_step [bagS a b, .im (.int n)] = .ok (.im (actD o)) [bagS a' b'] := by
  obtain ⟨x, a1, b1, h2, h3⟩ := of_ex a b (.list [.str "add", .str "add", .str "remove"]) _ (.inl rfl) (by simp) (by simp)
  have hu : ups n ≠ [] := by
    intro e
    have := ups_length n
    rw [e, List.length_nil] at this
    omega
  obtain ⟨ys, a2, b2, h4, h5, h6⟩ := some_ex a1 b1 (ups n) hu (by rw [ups_length]; omega)
  obtain ⟨k, rfl⟩ : ∃ k, x = .str (wordS k) := by
    simp at h2
    rcases h2 with rfl | rfl
    · exact ⟨true, rfl⟩
    · exact ⟨false, rfl⟩
  refine ⟨⟨k, ys⟩, a2, b2, ⟨h4, fun x hx => mem_ups.mp (h5.subset hx), (ups_sorted n).sublist h5⟩, ?_⟩
  have c1 : ∀ env : En, env[0]? = some (bagS a b) → callS 2 [true, false] f__law_of [.var 0, .im (.list [.str "add", .str "add", .str "remove"])] env = .ok (.im (.str (wordS k))) (env.set 0 (bagS a1 b1)) := fun env he => callB he rfl h3
  have c2 : ∀ env : En, env[0]? = some (bagS a1 b1) → callS 2 [true, false, false] f__law_some [.var 0, .im (.list ((ups n).map .int)), .im (.int 1)] env = .ok (.im (tI ys)) (env.set 0 (bagS a2 b2)) := fun env he => callB3 he rfl h6
  have e1 : (-1000000 ≤ (1 : Int) ∧ (1 : Int) ≤ 1000000) ∧ -1000000 ≤ n + 1 ∧ n + 1 ≤ 1000000 := by omega
  have e3 : rangeD 1 n.toNat = (ups n).map .int := by rw [← rangeD_ups, show n + 1 - 1 = n by omega]
  unfold f__law_step fnOf m__law_step
  unfold bagS actD at *
  try simp at c1 c2
  simp [mVar, c1, c2, mRgL, rfL, e1, e3, outsOf]
end TL

set_option maxRecDepth 100000
namespace TL
open PySem PySem.Spec L2 PL

/-! ### left -/
def leftI (n : Int) (xs : List Int) : List Int := (ups n).filter fun x => decide (x ∉ xs)
theorem lc_map {α : Type} {np : Nat} {vs : List Nat} {mt : MT} {mc : M Bool} {me : M Rf} {E : En} (enc : α → D) (c : α → Bool) (g : α → D) : ∀ {L : List α},
    (∀ x ∈ L, ∃ e1 e2, mt (enc x) E = some e1 ∧ mc e1 = .ok (c x) e1 ∧ (c x = true → (me e1).bindN (toI np) = .ok (g x) e2 ∧ wipeE vs e2 = E) ∧ wipeE vs e1 = E) → lcLoop np vs mt mc me (L.map enc) E = .ok ((L.filter c).map g) E
  | [], _ => rfl
  | x :: r, h => by
    obtain ⟨e1, e2, h1, h2, h3, h4⟩ := h x List.mem_cons_self
    have ih := lc_map enc c g (L := r) fun y hy => h y (List.mem_cons_of_mem _ hy)
    rw [List.map_cons]
    unfold lcLoop
    rw [h1]
    dsimp only
    rw [h2, Res.bindN_ok]
    cases hc : c x with
    | false =>
      dsimp only
      rw [h4, ih, List.filter_cons_of_neg (by rw [hc]; exact Bool.false_ne_true)]
    | true =>
      dsimp only
      obtain ⟨h5, h6⟩ := h3 hc
      rw [h5, Res.bindN_ok, h6, ih, Res.bindN_ok, List.filter_cons_of_pos hc, List.map_cons]
theorem last_split {α : Type} {l : List α} {x : α} (h : l.getLast? = some x) : l.dropLast ++ [x] = l := by
  obtain ⟨ys, rfl⟩ := List.getLast?_eq_some_iff.mp h
  simp
theorem left_of_eq {n : Int} {xs : List Int} (h0 : 0 ≤ n) (h1 : n ≤ 1000) : f_left_of [.im (.int n), .im (tI xs)] = .ok (.ol ((leftI n xs).map .int)) [] := by
  have e1 : (-1000000 ≤ (1 : Int) ∧ (1 : Int) ≤ 1000000) ∧ -1000000 ≤ n + 1 ∧ n + 1 ≤ 1000000 := by omega
  have e3 : rangeD 1 n.toNat = (ups n).map .int := by rw [← rangeD_ups, show n + 1 - 1 = n by omega]
  have lc := lc_map (np := 2) (vs := [2]) (mt := tName 2 2) (mc := mB (mOp2 gNotIn (mVar 2) (mVar 1))) (me := mVar 2) (E := [.im (.int n), .im (tI xs), .no]) PyData.int (fun x => decide (x ∉ xs)) PyData.int (L := ups n) fun z _ => by
      refine ⟨[.im (.int n), .im (tI xs), .im (.int z)], [.im (.int n), .im (tI xs), .im (.int z)], rfl, ?_, fun _ => ⟨rfl, rfl⟩, rfl⟩
      simp [mVar, gNotIn_tI]
  unfold f_left_of fnOf m_left_of
  simp [mVar, mRng2, e1, e3, wipeE, lc, outsOf, leftI]
theorem left_eq {n : Int} {xs : List Int} (h : Right n xs) : f_left [.im (stD n xs)] = .ok (.ol ((leftI n xs).map .int)) [] := by
  have c1 := fun np env => call1 (np := np) (env := env) (require_state_eq h)
  have c2 := fun np env => call2T (np := np) (env := env) (left_of_eq (xs := xs) (show 0 ≤ n by have := h.lo; omega) (by have := h.hi; omega))
  unfold f_left fnOf m_left
  unfold stD at *
  simp [mVar, c1, c2, outsOf]

/-! ### runs -/
def addRun (rs : List (List Int)) (x : Int) : List (List Int) := match rs.getLast? with
  | some r => (match r.getLast? with
    | some y => if y < x then rs.dropLast ++ [r ++ [x]] else rs ++ [[x]]
    | none => rs ++ [[x]])
  | none => [[x]]
def runsI (xs : List Int) : List (List Int) := xs.foldl addRun []
/-- one run's end isn't below the next one's start -/
def Broken : List (List Int) → Prop
  | a :: b :: r => (∀ x y, a.getLast? = some x → b.head? = some y → ¬ x < y) ∧ Broken (b :: r)
  | _ => True
structure RunsOf (xs : List Int) (rs : List (List Int)) : Prop where
  flat : rs.flatten = xs
  ne : ∀ r ∈ rs, r ≠ []
  asc : ∀ r ∈ rs, r.Pairwise (· < ·)
  brk : Broken rs
theorem Broken.snoc : ∀ {rs : List (List Int)} {r : List Int}, Broken rs → (∀ a x y, rs.getLast? = some a → a.getLast? = some x → r.head? = some y → ¬ x < y) → Broken (rs ++ [r])
  | [], _, _, _ => trivial
  | [a], r, _, h => ⟨fun x y hx hy => h a x y rfl hx hy, trivial⟩
  | a :: b :: rs, r, h, k => ⟨h.1, Broken.snoc (rs := b :: rs) h.2 fun c x y hc => k c x y (by simpa using hc)⟩
theorem Broken.last : ∀ {rs : List (List Int)} {r s : List Int}, Broken (rs ++ [r]) → s.head? = r.head? → Broken (rs ++ [s])
  | [], _, _, _, _ => trivial
  | [a], r, s, h, e => ⟨fun x y hx hy => h.1 x y hx (by rw [← e]; exact hy), trivial⟩
  | a :: b :: rs, r, s, h, e => ⟨h.1, Broken.last (rs := b :: rs) h.2 e⟩
theorem RunsOf.add {xs : List Int} {rs : List (List Int)} (h : RunsOf xs rs) (x : Int) : RunsOf (xs ++ [x]) (addRun rs x) := by
  have new : (∀ a z, rs.getLast? = some a → a.getLast? = some z → ¬ z < x) → RunsOf (xs ++ [x]) (rs ++ [[x]]) := fun hb =>
    ⟨by rw [List.flatten_append, h.flat]; simp, fun r hr => by
      rcases List.mem_append.mp hr with q | q
      · exact h.ne r q
      · rw [List.mem_singleton.mp q]; simp, fun r hr => by
      rcases List.mem_append.mp hr with q | q
      · exact h.asc r q
      · rw [List.mem_singleton.mp q]; simp, h.brk.snoc fun a z y ha hz hy => by
      simp at hy
      subst hy
      exact hb a z ha hz⟩
  unfold addRun
  cases hl : rs.getLast? with
  | none =>
    have e : rs = [] := List.getLast?_eq_none_iff.mp hl
    subst e
    have q := new fun a z ha => by simp at ha
    exact q
  | some r =>
    dsimp only
    have hr : r ∈ rs := List.mem_of_getLast? hl
    have e : rs = rs.dropLast ++ [r] := by
      exact (last_split hl).symm
    cases hy : r.getLast? with
    | none => exact absurd (List.getLast?_eq_none_iff.mp hy) (h.ne r hr)
    | some y =>
      dsimp only
      split
      · rename_i hlt
        have sub : ∀ s, s ∈ rs.dropLast → s ∈ rs := fun s hs => by rw [e]; exact List.mem_append_left _ hs
        refine ⟨?_, fun s hs => ?_, fun s hs => ?_, ?_⟩
        · have f := h.flat
          rw [e] at f
          rw [List.flatten_append] at f ⊢
          simp at f ⊢
          rw [← f, List.append_assoc]
        · rcases List.mem_append.mp hs with q | q
          · exact h.ne s (sub s q)
          · rw [List.mem_singleton.mp q]; simp
        · rcases List.mem_append.mp hs with q | q
          · exact h.asc s (sub s q)
          · rw [List.mem_singleton.mp q]
            have ar := h.asc r hr
            refine List.pairwise_append.mpr ⟨ar, by simp, fun z hz w hw => ?_⟩
            rw [List.mem_singleton.mp hw]
            have er := last_split hy
            rw [← er] at hz ar
            rcases List.mem_append.mp hz with q2 | q2
            · have := (List.pairwise_append.mp ar).2.2 z q2 y (by simp)
              omega
            · rw [List.mem_singleton.mp q2]; exact hlt
        · have b := h.brk
          rw [e] at b
          refine b.last ?_
          cases r with
          | nil => exact absurd rfl (h.ne [] hr)
          | cons c d => rfl
      · rename_i hlt
        exact new fun a z ha hz => by
          rw [hl] at ha
          cases ha
          rw [hy] at hz
          cases hz
          exact hlt
theorem runsI_ok (xs : List Int) : RunsOf xs (runsI xs) := by
  have go : ∀ (ys : List Int) (p : List Int) (rs : List (List Int)), RunsOf p rs → RunsOf (p ++ ys) (ys.foldl addRun rs) := by
    intro ys
    induction ys with
    | nil => intro p rs h; rw [List.append_nil]; exact h
    | cons y ys ih =>
      intro p rs h
      have q := ih (p ++ [y]) (addRun rs y) (h.add y)
      rw [List.append_assoc] at q
      exact q
  have q := go xs [] [] ⟨rfl, (fun r h => by cases h), (fun r h => by cases h), trivial⟩
  exact q
theorem atI_last {α : Type} {l : List α} {x : α} (h : l.getLast? = some x) : L2.atI l (-1) = some x ∧ ixN l.length (-1) = some (l.length - 1) := by
  have hp : 0 < l.length := by
    cases l with
    | nil => cases h
    | cons a r => simp
  have e : ixN l.length (-1) = some (l.length - 1) := by
    unfold ixN
    rw [if_neg (by decide), if_pos (by omega)]
    congr 1
    omega
  refine ⟨?_, e⟩
  unfold L2.atI
  rw [e]
  show l[l.length - 1]? = some x
  rw [← List.getLast?_eq_getElem?]
  exact h
def runsB : MS := (sIf (mAnd (mTru (mVar 1)) (mB (mOp2 gLt (mOp2 gIx (mOp2 gIx (mVar 1) (mOp1 gNeg (mK (.int 1)))) (mOp1 gNeg (mK (.int 1)))) (mVar 2))))
    (sAugIx 1 gIAdd (mOp1 gNeg (mK (.int 1))) (mTup 1 (mCons (mVar 2) mNil)))
    (sDrop (mAppend 1 1 (mTup 1 (mCons (mVar 2) mNil)))))
theorem runs_turn (t : D) (rs : List (List Int)) (x : Int) (h1 : ∀ r ∈ rs, r ≠ []) (h2 : rs.length < 1000) (h3 : ∀ r ∈ rs, r.length < 1000) : runsB [.im t, .ol (rs.map tI), .im (.int x)] = .nx [.im t, .ol ((addRun rs x).map tI), .im (.int x)] := by
  have hz : rs.length < sizeLine := by rw [sizeLine_eq]; omega
  have e0 : tI [x] = .tuple [.int x] := rfl
  unfold runsB addRun
  cases hl : rs.getLast? with
  | none =>
    have e : rs = [] := List.getLast?_eq_none_iff.mp hl
    subst e
    have z : 0 < sizeLine := by rw [sizeLine_eq]; omega
    simp [mVar, view, truS, mAppend, e0, z]
  | some r =>
    have hr : r ∈ rs := List.mem_of_getLast? hl
    have em : (rs.map tI).getLast? = some (tI r) := by rw [List.getLast?_map, hl]; rfl
    obtain ⟨a1, a2⟩ := atI_last em
    rw [List.length_map] at a2
    have hne : rs.map tI ≠ [] := by
      intro e
      rw [e] at em
      cases em
    have ht : truS (.ol (rs.map tI)) = some true := by
      cases hm : rs.map tI with
      | nil => exact absurd hm hne
      | cons c d => rfl
    dsimp only
    cases hy : r.getLast? with
    | none => exact absurd (List.getLast?_eq_none_iff.mp hy) (h1 r hr)
    | some y =>
      have ey : (r.map PyData.int).getLast? = some (.int y) := by rw [List.getLast?_map, hy]; rfl
      obtain ⟨b1, b2⟩ := atI_last ey
      have lz : r.length + 1 ≤ sizeLine := by have := h3 r hr; rw [sizeLine_eq]; omega
      have gi : gIx (.im (tI r)) (.im (.int (-1))) = some (.im (.int y)) := by
        unfold tI
        rw [gIx_tup, b1]
        rfl
      dsimp only
      by_cases hlt : y < x
      · have ga : gIAdd (.im (tI r)) (.im (.tuple [.int x])) = some (.im (tI (r ++ [x]))) := by
          unfold tI gIAdd
          simp [lz]
        have es : (rs.map tI).set (rs.length - 1) (tI (r ++ [x])) = (rs.dropLast ++ [r ++ [x]]).map tI := by
          have sp := last_split hl
          have ln : rs.dropLast.length = rs.length - 1 := List.length_dropLast
          have q : rs.map tI = rs.dropLast.map tI ++ [tI r] := by rw [← List.map_singleton, ← List.map_append, sp]
          rw [q, List.set_append_right _ _ (by rw [List.length_map, ln]; exact Nat.le_refl _)]
          simp [ln]
        simp [mVar, view, opv2, ht, a1, gi, hlt, sAugIx, a2, ga, es]
      · simp [mVar, view, opv2, ht, a1, gi, hlt, mAppend, hz, e0]
theorem addRun_len (rs : List (List Int)) (x : Int) : (addRun rs x).length ≤ rs.length + 1 := by
  unfold addRun
  split
  · split
    · split
      · rw [List.length_append, List.length_dropLast, List.length_singleton]
        omega
      · simp
    · simp
  · simp
theorem flat_le {rs : List (List Int)} {r : List Int} (h : r ∈ rs) : r.length ≤ rs.flatten.length := by
  obtain ⟨a, b, rfl⟩ := List.append_of_mem h
  simp
  omega
theorem ne_le : ∀ {rs : List (List Int)}, (∀ r ∈ rs, r ≠ []) → rs.length ≤ rs.flatten.length
  | [], _ => Nat.le_refl _
  | r :: rs, h => by
    have h1 := List.length_pos_iff.mpr (h r List.mem_cons_self)
    have h2 := ne_le (rs := rs) fun s hs => h s (List.mem_cons_of_mem _ hs)
    rw [List.flatten_cons, List.length_append, List.length_cons]
    omega
theorem runs_of_eq {xs : List Int} (h : xs.length < 1000) : f_runs_of [.im (tI xs)] = .ok (.ol ((runsI xs).map tI)) [] := by
  let E : Nat → En → Prop := fun i e => ∃ (rs : List (List Int)) (s : Sl), e = [.im (tI xs), .ol (rs.map tI), s] ∧ s.own = false ∧ rs = (xs.take i).foldl addRun [] ∧ RunsOf (xs.take i) rs
  have hE : ∀ i e, E i e ↔ ∃ (rs : List (List Int)) (s : Sl), e = [.im (tI xs), .ol (rs.map tI), s] ∧ s.own = false ∧ rs = (xs.take i).foldl addRun [] ∧ RunsOf (xs.take i) rs := fun _ _ => Iff.rfl
  obtain ⟨e', q1, q2⟩ := loop_ix (mt := tName 1 2) (body := runsB) (E := E) (xs.map .int) (e := [.im (tI xs), .ol [], .no]) ((hE _ _).mpr ⟨[], .no, rfl, rfl, rfl, ⟨rfl, (fun r h => by cases h), (fun r h => by cases h), trivial⟩⟩) fun i d e hd he => by
    obtain ⟨rs, s, rfl, hs, er, R⟩ := (hE _ _).mp he
    rw [List.getElem?_map] at hd
    obtain ⟨x, hx, rfl⟩ := Option.map_eq_some_iff.mp hd
    have hi : i < xs.length := (List.getElem?_eq_some_iff.mp hx).1
    have tl : (xs.take i).length = i := by rw [List.length_take]; omega
    have l1 : rs.length ≤ i := by have := ne_le R.ne; rw [R.flat, tl] at this; exact this
    have tk : xs.take (i + 1) = xs.take i ++ [x] := by rw [List.take_add_one, hx]; rfl
    refine ⟨[.im (tI xs), .ol (rs.map tI), .im (.int x)], _, ?_, .inl (runs_turn (tI xs) rs x R.ne (by omega) fun r hr => ?_), (hE _ _).mpr ⟨addRun rs x, _, rfl, rfl, ?_, ?_⟩⟩
    · simp [tName, setSl, hs]
    · have := flat_le hr; rw [R.flat, tl] at this; omega
    · rw [tk, List.foldl_append, ← er]; rfl
    · rw [tk]; exact R.add x
  obtain ⟨rs, s, rfl, hs, er, R⟩ := (hE _ _).mp q2
  rw [List.length_map, List.take_length] at er
  subst er
  unfold f_runs_of fnOf
  show (match (sSeq (sSet 1 1 (mLst 1 mNil)) (sSeq (sFor (mSeq 1 (mVar 0)) (tName 1 2) runsB) (sRet 1 (mVar 1)))) _ with
    | .rt r e => FR.ok r (outsOf [false] e)
    | .nx e => FR.ok (.im .none) (outsOf [false] e)
    | .exn c e => FR.exn c (outsOf [false] e)
    | _ => FR.stuck) = _
  generalize runsB = body at q1 ⊢
  unfold tI at *
  simp [mVar, sStore, setSl, Sl.own, q1, outsOf, runsI]
theorem runs_eq {n : Int} {xs : List Int} (h : Right n xs) : f_runs [.im (stD n xs)] = .ok (.ol ((runsI xs).map tI)) [] := by
  have c1 := fun np env => call1 (np := np) (env := env) (require_state_eq h)
  have c2 := fun np env => call1T (np := np) (env := env) (runs_of_eq (xs := xs) (by have := h.len; omega))
  unfold f_runs fnOf m_runs
  unfold stD at *
  simp [mVar, c1, c2, outsOf]
end TL

set_option maxRecDepth 100000
namespace TL
open PySem PySem.Spec L2 PL

/-! ### ascending -/
def pairsOf (xs : List Int) : List (Int × Int) := xs.zip (xs.drop 1)
def ascB (xs : List Int) : Bool := (pairsOf xs).all fun p => decide (p.1 < p.2)
theorem ascB_iff : ∀ xs : List Int, ascB xs = true ↔ xs.Pairwise (· < ·)
  | [] => by unfold ascB pairsOf; simp
  | [a] => by unfold ascB pairsOf; simp
  | a :: b :: r => by
    have ih := ascB_iff (b :: r)
    have e : ascB (a :: b :: r) = (decide (a < b) && ascB (b :: r)) := by unfold ascB pairsOf; simp
    rw [e, Bool.and_eq_true, ih, decide_eq_true_eq, List.pairwise_cons (a := a)]
    constructor
    · rintro ⟨h, p⟩
      refine ⟨fun x hx => ?_, p⟩
      rcases List.mem_cons.mp hx with q | q
      · omega
      · have := (List.pairwise_cons.mp p).1 x q
        omega
    · rintro ⟨h, p⟩
      exact ⟨h b List.mem_cons_self, p⟩
theorem cut1 (ds : List D) : cutD ds (some 1) none = ds.drop 1 := by
  cases ds with
  | nil => rfl
  | cons d r =>
    unfold cutD HT.sIx
    simp
def pairD (p : Int × Int) : D := .tuple [.int p.1, .int p.2]
theorem zipD_ints : ∀ xs ys : List Int, zipD (xs.map .int) (ys.map .int) = (xs.zip ys).map pairD
  | [], _ => rfl
  | _ :: _, [] => rfl
  | x :: xs, y :: ys => by
    show PyData.tuple [.int x, .int y] :: zipD (xs.map .int) (ys.map .int) = _
    rw [zipD_ints xs ys]
    rfl
theorem ascends_eq (xs : List Int) : f_ascends [.im (tI xs)] = .ok (.im (.bool (ascB xs))) [] := by
  have lc := lc_map (np := 1) (vs := [1, 2]) (mt := tTuple 2 (tsCons (tName 1 1) (tsCons (tName 1 2) tsNil))) (mc := mYes) (me := mOp2 gLt (mVar 1) (mVar 2)) (E := [.im (tI xs), .no, .no]) pairD (fun _ => true) (fun p => .bool (decide (p.1 < p.2))) (L := pairsOf xs) fun p _ => by
    refine ⟨[.im (tI xs), .im (.int p.1), .im (.int p.2)], [.im (tI xs), .im (.int p.1), .im (.int p.2)], ?_, rfl, fun _ => ⟨?_, rfl⟩, rfl⟩
    · simp [pairD, tTuple, tsCons, tsNil, tName, setSl, Sl.own]
    · simp [mVar]
  have e1 : cutD (xs.map PyData.int) (some 1) none = (xs.drop 1).map .int := by rw [cut1, List.map_drop]
  have e2 : zipD (xs.map PyData.int) (xs.map PyData.int).tail = (pairsOf xs).map pairD := by rw [← List.drop_one, ← List.map_drop]; exact zipD_ints _ _
  unfold f_ascends fnOf m_ascends
  unfold tI at *
  simp [mVar, mSlice, mPart, mNoPart, mZip, view, e1, seqD, e2, wipeE, lc, gAll, outsOf, ascB, Function.comp_def]

/-! ### operations of a script -/
def goodItems (n : Int) (ds : List D) : Bool := match intsOf ds with
  | some xs => decide (xs ≠ []) && xs.all (fun x => decide (1 ≤ x) && decide (x ≤ n)) && ascB xs
  | none => false
def isOp (n : Int) (d : D) : Bool := match d with
  | .tuple [.str w, .tuple ds] => (decide (w = "add") || decide (w = "remove")) && goodItems n ds
  | _ => false
/-- what a script of the law may hold -/
inductive Cand : D → Prop
  | non : Cand .none
  | bool (b : Bool) : Cand (.bool b)
  | int (i : Int) : Cand (.int i)
  | str (x : Str) : Cand (.str x)
  | lst (ds : List D) : Cand (.list ds)
  | tup (ds : List D) : ds.length ≠ 2 → Cand (.tuple ds)
  | op (w : Str) (v : D) : nice (.str w) = true → nice v = true → ordAll v = true → ordD v = true → (∀ ds, v = .tuple ds → ds.length < 64) → Cand (.tuple [.str w, v])
theorem eqv_str (w v : Str) : PyData.eqv (.str w) (.str v) = decide (w = v) := PySem.W.Datum.eqv (α := Str) w v
theorem nice_add : nice (.str "add") = true := by decide +kernel
theorem nice_remove : nice (.str "remove") = true := by decide +kernel
theorem words_lay : PyData.canLayAll0 [.str "add", .str "remove"] = true := by decide +kernel
theorem eqv_str2 (w v : Str) : PyData.eqv (.str v) (.str w) = decide (w = v) := by
  rw [eqv_str]
  exact decide_eq_decide.mpr ⟨fun e => e.symm, fun e => e.symm⟩
theorem areItems_ints {n : Int} {ds : List D} (h : ds.all (fun x => isInt x 1 n) = true) : ∃ xs : List Int, ds = xs.map .int ∧ ∀ x ∈ xs, 1 ≤ x ∧ x ≤ n := by
  induction ds with
  | nil => exact ⟨[], rfl, fun x h => by cases h⟩
  | cons d r ih =>
    rw [List.all_cons, Bool.and_eq_true] at h
    obtain ⟨xs, rfl, hx⟩ := ih h.2
    cases d with
    | int i =>
      have h1 := h.1
      rw [isInt_int, Bool.and_eq_true, decide_eq_true_eq, decide_eq_true_eq] at h1
      exact ⟨i :: xs, rfl, fun x hm => by
        rcases List.mem_cons.mp hm with q | q
        · rw [q]; exact h1
        · exact hx x q⟩
    | none => cases h.1
    | bool b => cases h.1
    | str b => cases h.1
    | list b => cases h.1
    | tuple b => cases h.1
    | dict b => cases h.1
theorem isOp_no {n : Int} {w : Str} {v : D} (h : areItems n v = false) : isOp n (.tuple [.str w, v]) = false := by
  cases v with
  | tuple ds =>
    show ((decide (w = "add") || decide (w = "remove")) && goodItems n ds) = false
    have e : goodItems n ds = false := by
      unfold goodItems
      cases hi : intsOf ds with
      | none => rfl
      | some xs =>
        have e2 := intsOf_map hi
        subst e2
        have h : areItems n (tI xs) = false := h
        rw [areItems_tI] at h
        simp [h]
    rw [e, Bool.and_false]
  | _ => rfl
theorem isOp_yes {n : Int} {w : Str} {xs : List Int} (h : areItems n (tI xs) = true) : isOp n (.tuple [.str w, tI xs]) = ((decide (w = "add") || decide (w = "remove")) && (decide (xs ≠ []) && ascB xs)) := by
  show ((decide (w = "add") || decide (w = "remove")) && goodItems n (xs.map .int)) = _
  rw [areItems_tI] at h
  unfold goodItems
  rw [intsOf_of]
  simp [h]
theorem is_operation_eq {n : Int} {d : D} (h : Cand d) : f_is_operation [.im (.int n), .im d] = .ok (.im (.bool (isOp n d))) [] := by
  cases h with
  | non => simp [f_is_operation, fnOf, m_is_operation, mVar, tyOf, isT, truS, outsOf, isOp]
  | bool b => simp [f_is_operation, fnOf, m_is_operation, mVar, tyOf, isT, truS, outsOf, isOp]
  | int i => simp [f_is_operation, fnOf, m_is_operation, mVar, tyOf, isT, truS, outsOf, isOp]
  | str x => simp [f_is_operation, fnOf, m_is_operation, mVar, tyOf, isT, truS, outsOf, isOp]
  | lst ds => simp [f_is_operation, fnOf, m_is_operation, mVar, tyOf, isT, truS, outsOf, isOp]
  | tup ds hl =>
    have e : isOp n (.tuple ds) = false := by
      unfold isOp
      split
      · rename_i q
        cases q
        exact absurd rfl hl
      · rfl
    rw [e]
    have hl' : ¬ ((ds.length : Int) = 2) := by omega
    simp [f_is_operation, fnOf, m_is_operation, mVar, tyOf, isT, truS, outsOf, hl']
  | op w v hw hn ho hd hl =>
    have c1 := fun np env => call2 (np := np) (env := env) (are_items_eq (n := n) ho)
    have e1 : gNotIn (.im (.str w)) (.im (.tuple [.str "add", .str "remove"])) = some (.im (.bool (!(decide (w = "add") || decide (w = "remove"))))) := by
      unfold gNotIn
      simp only [content, items, hw, words_lay, and_self, if_true, List.any_cons, List.any_nil, eqv_str2, Bool.or_false]
    cases hk : (decide (w = "add") || decide (w = "remove")) with
    | false =>
      have e2 : isOp n (.tuple [.str w, v]) = false := by
        cases v with
        | tuple ds =>
          show ((decide (w = "add") || decide (w = "remove")) && goodItems n ds) = false
          rw [hk, Bool.false_and]
        | _ => rfl
      rw [hk] at e1
      rw [e2]
      simp [f_is_operation, fnOf, m_is_operation, mVar, tyOf, isT, truS, outsOf, e1]
    | true =>
      rw [hk] at e1
      cases ha : areItems n v with
      | false =>
        rw [isOp_no ha]
        rw [ha] at c1
        simp [f_is_operation, fnOf, m_is_operation, mVar, tyOf, isT, truS, outsOf, e1, c1]
      | true =>
        obtain ⟨xs, rfl⟩ : ∃ xs : List Int, v = tI xs := by
          cases v with
          | tuple ds =>
            obtain ⟨xs, e, _⟩ := areItems_ints (n := n) (ds := ds) ha
            exact ⟨xs, by rw [e]; rfl⟩
          | _ => cases ha
        rw [isOp_yes ha, hk, Bool.true_and]
        rw [ha] at c1
        have c2 := fun np env => call1 (np := np) (env := env) (ascends_eq xs)
        unfold tI at *
        cases xs with
        | nil =>
          simp at c1 c2
          simp [f_is_operation, fnOf, m_is_operation, mVar, tyOf, isT, truS, outsOf, e1, c1, gGt]
        | cons x r =>
          have lp : (0 : Int) < (r.length : Int) + 1 := by omega
          simp at c1 c2
          simp [f_is_operation, fnOf, m_is_operation, mVar, tyOf, isT, truS, outsOf, e1, c1, c2, gGt, lp]
theorem loop_all {mt : MT} {body : MS} {c : D → Bool} {s : Sl} {I : En → Prop} : ∀ {ds : List D} {e : En}, I e → (∀ d ∈ ds, ∀ e, I e → ∃ e1 e2, mt d e = some e1 ∧ I e2 ∧ body e1 = if c d = true then .nx e2 else .rt s e2) → ∃ e', I e' ∧ loopS mt body ds e = if ds.all c = true then .nx e' else .rt s e'
  | [], e, hI, _ => ⟨e, hI, rfl⟩
  | d :: ds, e, hI, h => by
    obtain ⟨e1, e2, h1, h2, h3⟩ := h d List.mem_cons_self e hI
    obtain ⟨e', q1, q2⟩ := loop_all h2 fun x hx => h x (List.mem_cons_of_mem d hx)
    unfold loopS
    rw [h1]
    dsimp only
    rw [h3, List.all_cons]
    cases hc : c d with
    | false => exact ⟨e2, h2, rfl⟩
    | true =>
      refine ⟨e', q1, ?_⟩
      rw [if_pos rfl]
      exact q2
theorem isInt_any {d : D} {n : Int} (h : ordD d = true) : isInt d 1 n = (match tyOf (.im d) with
    | some t => isT "int" t && !isT "bool" t && isInt d 1 n
    | none => false) := by
  cases d <;> first | rfl | (cases h; done) | (simp [tyOf, isT])
theorem eqv_ints (xs ys : List Int) : PyData.eqv (.list (xs.map .int)) (.list (ys.map .int)) = decide (xs = ys) := PySem.W.Datum.eqv (α := List Int) xs ys
theorem nice_ints (xs : List Int) : nice (.list (xs.map .int)) = true := by
  unfold nice SeqAt.shaped
  rw [PyData.canLay0, lay_ints, PyData.depth, depth_ints]
  decide
theorem gEq_ints (xs ys : List Int) : gEq (.ol (xs.map .int)) (.ol (ys.map .int)) = some (.im (.bool (decide (xs = ys)))) := by
  unfold gEq
  simp only [content, nice_ints, and_self, if_true, eqv_ints]
theorem asc_sorted (xs : List Int) : decide (xs = sortI (dedupI xs)) = ascB xs := by
  rw [Bool.eq_iff_iff, decide_eq_true_eq, ascB_iff]
  constructor
  · intro e
    rw [e]
    have s := sortI_sorted (dedupI xs)
    have d : (sortI (dedupI xs)).Nodup := ((sortI_perm _).nodup_iff).mpr (dedupI_nodup xs)
    exact (s.and d).imp fun h => by omega
  · intro p
    have d : xs.Nodup := p.imp fun h e => by omega
    rw [dedup_nodup d]
    exact sorted_uniq (p.imp fun h => by omega) (sortI_sorted _) (sortI_perm _).symm
def actB : MS := (sIf (mOr (mNot (mTru (mIs "int" (mVar 2)))) (mOr (mTru (mIs "bool" (mVar 2))) (mNot (mB (mChain gLe gLe (mK (.int 1)) (mVar 2) (mVar 0))))))
    (sRet 2 (mK (.bool false)))
    sNext)
theorem actB_eq (n : Int) (v d : D) (h : ordD d = true) : actB [.im (.int n), .im v, .im d] = if isInt d 1 n = true then .nx [.im (.int n), .im v, .im d] else .rt (.im (.bool false)) [.im (.int n), .im v, .im d] := by
  unfold actB
  cases d with
  | dict k => cases h
  | int i =>
    by_cases h1 : 1 ≤ i
    · by_cases h2 : i ≤ n
      · simp [mVar, tyOf, isT, truS, mChain, h1, h2]
      · simp [mVar, tyOf, isT, truS, mChain, h1, h2]
    · simp [mVar, tyOf, isT, truS, mChain, h1]
  | none => simp [mVar, tyOf, isT, truS, isInt]
  | bool b => simp [mVar, tyOf, isT, truS, isInt]
  | str b => simp [mVar, tyOf, isT, truS, isInt]
  | list b => simp [mVar, tyOf, isT, truS, isInt]
  | tuple b => simp [mVar, tyOf, isT, truS, isInt]
theorem nice_nil : nice (.tuple []) = true := by decide +kernel
theorem is_action_eq {n : Int} {d : D} (h : Cand d) : f__law_is_action [.im (.int n), .im d] = .ok (.im (.bool (isOp n d))) [] := by
  cases h with
  | non => simp [f__law_is_action, fnOf, m__law_is_action, mVar, tyOf, isT, truS, outsOf, isOp]
  | bool b => simp [f__law_is_action, fnOf, m__law_is_action, mVar, tyOf, isT, truS, outsOf, isOp]
  | int i => simp [f__law_is_action, fnOf, m__law_is_action, mVar, tyOf, isT, truS, outsOf, isOp]
  | str x => simp [f__law_is_action, fnOf, m__law_is_action, mVar, tyOf, isT, truS, outsOf, isOp]
  | lst ds => simp [f__law_is_action, fnOf, m__law_is_action, mVar, tyOf, isT, truS, outsOf, isOp]
  | tup ds hl =>
    have e : isOp n (.tuple ds) = false := by
      unfold isOp
      split
      · rename_i q
        cases q
        exact absurd rfl hl
      · rfl
    rw [e]
    have hl' : ¬ ((ds.length : Int) = 2) := by omega
    simp [f__law_is_action, fnOf, m__law_is_action, mVar, tyOf, isT, truS, outsOf, hl']
  | op w v hw hn ho hd hl =>
    have e1 : gNotIn (.im (.str w)) (.ol [.str "add", .str "remove"]) = some (.im (.bool (!(decide (w = "add") || decide (w = "remove"))))) := by
      unfold gNotIn
      simp only [content, items, hw, words_lay, and_self, if_true, List.any_cons, List.any_nil, eqv_str2, Bool.or_false]
    cases hk : (decide (w = "add") || decide (w = "remove")) with
    | false =>
      have e2 : isOp n (.tuple [.str w, v]) = false := by
        cases v with
        | tuple ds =>
          show ((decide (w = "add") || decide (w = "remove")) && goodItems n ds) = false
          rw [hk, Bool.false_and]
        | _ => rfl
      rw [hk] at e1
      rw [e2]
      simp [f__law_is_action, fnOf, m__law_is_action, mVar, tyOf, isT, truS, outsOf, opv2, e1]
    | true =>
      rw [hk] at e1
      cases v with
      | dict k => cases hd
      | none => simp [f__law_is_action, fnOf, m__law_is_action, mVar, tyOf, isT, truS, outsOf, opv2, e1, isOp]
      | bool b => simp [f__law_is_action, fnOf, m__law_is_action, mVar, tyOf, isT, truS, outsOf, opv2, e1, isOp]
      | int b => simp [f__law_is_action, fnOf, m__law_is_action, mVar, tyOf, isT, truS, outsOf, opv2, e1, isOp]
      | str b => simp [f__law_is_action, fnOf, m__law_is_action, mVar, tyOf, isT, truS, outsOf, opv2, e1, isOp]
      | list b => simp [f__law_is_action, fnOf, m__law_is_action, mVar, tyOf, isT, truS, outsOf, opv2, e1, isOp]
      | tuple ds =>
        have e3 : isOp n (.tuple [.str w, .tuple ds]) = goodItems n ds := by
          show ((decide (w = "add") || decide (w = "remove")) && goodItems n ds) = _
          rw [hk, Bool.true_and]
        have e4 : gEq (.im (.tuple ds)) (.im (.tuple [])) = some (.im (.bool (decide (ds = [])))) := by
          unfold gEq
          simp only [content, hn, nice_nil, and_self, if_true]
          cases ds <;> simp [PyData.eqv, PyData.eqvAll]
        rw [e3]
        have ho : ds.all ordD = true := ho
        by_cases hds : ds = []
        · subst hds
          simp [f__law_is_action, fnOf, m__law_is_action, mVar, tyOf, isT, truS, outsOf, opv2, e1, e4, goodItems, intsOf]
        · have I0 : ∀ e : En, (∃ s, e = [.im (.int n), .im (.tuple [.str w, .tuple ds]), s] ∧ s.own = false) ↔ (∃ s, e = [.im (.int n), .im (.tuple [.str w, .tuple ds]), s] ∧ s.own = false) := fun _ => .rfl
          obtain ⟨e', ⟨s, rfl, hs⟩, q⟩ := loop_all (mt := tName 2 2) (body := actB) (c := fun d => isInt d 1 n) (s := .im (.bool false)) (I := fun e => ∃ s, e = [.im (.int n), .im (.tuple [.str w, .tuple ds]), s] ∧ s.own = false) (ds := ds) (e := [.im (.int n), .im (.tuple [.str w, .tuple ds]), .no]) ⟨.no, rfl, rfl⟩ fun d hd e he => by
            obtain ⟨s, rfl, hs⟩ := he
            refine ⟨[.im (.int n), .im (.tuple [.str w, .tuple ds]), .im d], _, ?_, ⟨.im d, rfl, rfl⟩, actB_eq n _ d (List.all_eq_true.mp ho d hd)⟩
            simp [tName, setSl, hs]
          unfold actB at q
          cases ha : ds.all (fun d => isInt d 1 n) with
          | false =>
            have e5 : goodItems n ds = false := by
              unfold goodItems
              cases hi : intsOf ds with
              | none => rfl
              | some xs =>
                have e6 := intsOf_map hi
                subst e6
                rw [List.all_map] at ha
                have ha : (xs.all fun x => decide (1 ≤ x) && decide (x ≤ n)) = false := ha
                simp [ha]
            rw [ha, if_neg Bool.false_ne_true] at q
            rw [e5]
            simp [f__law_is_action, fnOf, m__law_is_action, mVar, tyOf, isT, truS, outsOf, opv2, e1, e4, hds, q]
          | true =>
            obtain ⟨xs, rfl, hx⟩ := areItems_ints ha
            rw [ha, if_pos rfl] at q
            have hl64 := hl _ rfl
            rw [List.length_map] at hl64
            have hne : xs ≠ [] := fun e => hds (by rw [e]; rfl)
            have e6 : goodItems n (xs.map .int) = ascB xs := by
              have hx' : (xs.all fun x => decide (1 ≤ x) && decide (x ≤ n)) = true := List.all_eq_true.mpr fun x hm => by simp [hx x hm]
              unfold goodItems
              rw [intsOf_of]
              simp [hne, hx']
            have e7 := asc_sorted xs
            have e8 := gEq_ints xs (sortI (dedupI xs))
            rw [e7] at e8
            rw [e6]
            simp [f__law_is_action, fnOf, m__law_is_action, mVar, tyOf, isT, truS, outsOf, opv2, view, e1, e4, hne, q, mSetI, intsOf_of, hl64, gList, items, e8]
end TL

set_option maxRecDepth 100000
namespace TL
open PySem PySem.Spec L2 PL

theorem are_operations_eq {n m : Int} {ds : List D} (h : ∀ d ∈ ds, Cand d) : f_are_operations [.im (.int n), .im (.tuple ds), .im (.int m)] = .ok (.im (.bool (decide ((ds.length : Int) ≤ m) && ds.all (isOp n)))) [] := by
  have lc := lc_pure (np := 3) (vs := [3]) (mt := tName 3 3) (mc := mYes) (me := mCall 3 [false, false] TL.f_is_operation (mCons (mVar 0) (mCons (mVar 3) mNil))) (E := [.im (.int n), .im (.tuple ds), .im (.int m), .no]) (c := fun _ => true) (g := fun d => .bool (isOp n d)) (ds := ds) fun d hd => by
    refine ⟨[.im (.int n), .im (.tuple ds), .im (.int m), .im d], [.im (.int n), .im (.tuple ds), .im (.int m), .im d], rfl, rfl, fun _ => ⟨?_, rfl⟩, rfl⟩
    simp [mVar, call2 (is_operation_eq (n := n) (h d hd))]
  unfold f_are_operations fnOf m_are_operations
  by_cases hl : (ds.length : Int) ≤ m
  · simp [mVar, tyOf, isT, hl, wipeE, lc, gAll, outsOf, Function.comp_def]
  · simp [mVar, tyOf, isT, hl, outsOf]
theorem are_operations_no {n m : Int} {d : D} (h : ordD d = true) (hn : ∀ ds, d ≠ .tuple ds) : f_are_operations [.im (.int n), .im d, .im (.int m)] = .ok (.im (.bool false)) [] := by
  unfold f_are_operations fnOf m_are_operations
  cases d with
  | dict k => cases h
  | tuple ds => exact absurd rfl (hn ds)
  | none => simp [mVar, tyOf, isT, outsOf]
  | bool b => simp [mVar, tyOf, isT, outsOf]
  | int b => simp [mVar, tyOf, isT, outsOf]
  | str b => simp [mVar, tyOf, isT, outsOf]
  | list b => simp [mVar, tyOf, isT, outsOf]
theorem is_script_eq {n : Int} {ds : List D} (h0 : 1 ≤ n) (h1 : n ≤ 16) (h : ∀ d ∈ ds, Cand d) : f_is_script [.im (.int n), .im (.tuple ds)] = .ok (.im (.bool (decide (ds.length ≤ 40) && ds.all (isOp n)))) [] := by
  have c1 := fun np env => call1 (np := np) (env := env) (require_size_eq h0 h1)
  have c2 := fun np env => call3 (np := np) (env := env) (are_operations_eq (n := n) (m := 40) h)
  have e : decide ((ds.length : Int) ≤ 40) = decide (ds.length ≤ 40) := decide_eq_decide.mpr (by omega)
  rw [e] at c2
  unfold f_is_script fnOf m_is_script
  simp [mVar, c1, c2, outsOf]
theorem is_script_no {n : Int} {d : D} (h0 : 1 ≤ n) (h1 : n ≤ 16) (h : ordD d = true) (hn : ∀ ds, d ≠ .tuple ds) : f_is_script [.im (.int n), .im d] = .ok (.im (.bool false)) [] := by
  have c1 := fun np env => call1 (np := np) (env := env) (require_size_eq h0 h1)
  have c2 := fun np env => call3 (np := np) (env := env) (are_operations_no (n := n) (m := 40) h hn)
  unfold f_is_script fnOf m_is_script
  simp [mVar, c1, c2, outsOf]

/-! ### law's look at runs -/
def rrB : MS := (sSeq (sIf (mOr (mNot (mTru (mIs "tuple" (mVar 3)))) (mOr (mB (mOp2 gEq (mVar 3) (mTup 2 mNil))) (mB (mOp2 gNe (mCB gList (mCons (mVar 3) mNil)) (mCB gSorted (mCons (mVar 3) mNil))))))
    (sRet 2 (mK (.bool false)))
    sNext)
    (sSet 2 2 (mOp2 gAdd (mVar 2) (mVar 3))))
theorem gNe_ints (xs ys : List Int) : gNe (.ol (xs.map .int)) (.ol (ys.map .int)) = some (.im (.bool (!decide (xs = ys)))) := by
  unfold gNe
  simp only [content, nice_ints, and_self, if_true, eqv_ints]
theorem gEq_nil (r : List Int) : gEq (.im (.tuple (r.map .int))) (.im (.tuple [])) = some (.im (.bool (decide (r = [])))) := gEq_tI r []
theorem rrB_eq (a b : D) (w r : List Int) (hr : r ≠ []) (ha : r.Pairwise (· < ·)) (hl : w.length + r.length ≤ 1000) :
    rrB [.im a, .im b, .im (tI w), .im (tI r), .no, .no, .no] = .nx [.im a, .im b, .im (tI (w ++ r)), .im (tI r), .no, .no, .no] := by
  have e1 : sortI r = r := (sorted_uniq (ha.imp fun h => by omega) (sortI_sorted _) (sortI_perm _).symm).symm
  have e2 := gNe_ints r (sortI r)
  rw [e1] at e2
  have e3 := gEq_nil r
  have lz : w.length + r.length ≤ sizeLine := by rw [sizeLine_eq]; omega
  have e4 : gAdd (.im (tI w)) (.im (tI r)) = some (.im (tI (w ++ r))) := by
    unfold tI gAdd
    simp [lz]
  unfold rrB
  unfold tI at *
  simp [mVar, tyOf, isT, truS, e3, hr, gList, items, gSorted, intsOf_of, opv2, view, e1, e2, e4, sStore, setSl, Sl.own]
theorem Broken.zip : ∀ {rs : List (List Int)}, Broken rs → ∀ p ∈ rs.zip rs.tail, ∀ x y, p.1.getLast? = some x → p.2.head? = some y → ¬ x < y
  | [], _, p, hp, _, _, _, _ => by simp at hp
  | [a], _, p, hp, _, _, _, _ => by simp at hp
  | a :: b :: r, h, p, hp, x, y, hx, hy => by
    rw [List.tail_cons, List.zip_cons_cons] at hp
    rcases List.mem_cons.mp hp with q | q
    · subst q; exact h.1 x y hx hy
    · exact Broken.zip (rs := b :: r) h.2 p q x y hx hy
theorem zip_mem {rs : List (List Int)} {p : List Int × List Int} (h : p ∈ rs.zip rs.tail) : p.1 ∈ rs ∧ p.2 ∈ rs := ⟨(List.of_mem_zip h).1, List.mem_of_mem_tail (List.of_mem_zip h).2⟩
def pairT (p : List Int × List Int) : D := .tuple [tI p.1, tI p.2]
theorem zipD_tI : ∀ xs ys : List (List Int), zipD (xs.map tI) (ys.map tI) = (xs.zip ys).map pairT
  | [], _ => rfl
  | _ :: _, [] => rfl
  | x :: xs, y :: ys => by
    show PyData.tuple [tI x, tI y] :: zipD (xs.map tI) (ys.map tI) = _
    rw [zipD_tI xs ys]
    rfl
theorem runs_right_eq {xs : List Int} {rs : List (List Int)} (R : RunsOf xs rs) (hx : xs.length ≤ 500) : f__law_runs_right [.im (tI xs), .im (.list (rs.map tI))] = .ok (.im (.bool true)) [] := by
  let E : Nat → En → Prop := fun i e => ∃ s, e = [.im (tI xs), .im (.list (rs.map tI)), .im (tI (rs.take i).flatten), s, .no, .no, .no] ∧ s.own = false
  have hE : ∀ i e, E i e ↔ ∃ s, e = [.im (tI xs), .im (.list (rs.map tI)), .im (tI (rs.take i).flatten), s, .no, .no, .no] ∧ s.own = false := fun _ _ => Iff.rfl
  obtain ⟨e', q1, q2⟩ := loop_ix (mt := tName 2 3) (body := rrB) (E := E) (rs.map tI) (e := [.im (tI xs), .im (.list (rs.map tI)), .im (tI []), .no, .no, .no, .no]) ((hE _ _).mpr ⟨.no, rfl, rfl⟩) fun i d e hd he => by
    obtain ⟨s, rfl, hs⟩ := (hE _ _).mp he
    rw [List.getElem?_map] at hd
    obtain ⟨r, hr, rfl⟩ := Option.map_eq_some_iff.mp hd
    have hm : r ∈ rs := List.mem_of_getElem? hr
    have tk : (rs.take (i + 1)).flatten = (rs.take i).flatten ++ r := by rw [List.take_add_one, hr, List.flatten_append]; simp
    have ln : ((rs.take (i + 1)).flatten).length ≤ xs.length := by
      have := R.flat
      rw [← List.take_append_drop (i + 1) rs, List.flatten_append] at this
      rw [← this, List.length_append]
      omega
    rw [tk, List.length_append] at ln
    refine ⟨[.im (tI xs), .im (.list (rs.map tI)), .im (tI (rs.take i).flatten), .im (tI r), .no, .no, .no], _, ?_, .inl (rrB_eq _ _ _ r (R.ne r hm) (R.asc r hm) (by omega)), (hE _ _).mpr ⟨.im (tI r), by rw [tk], rfl⟩⟩
    simp [tName, setSl, hs]
  obtain ⟨s, rfl, hs⟩ := (hE _ _).mp q2
  rw [List.length_map, List.take_length, R.flat] at q1
  have lc := lc_map (np := 2) (vs := [5, 6]) (mt := tTuple 2 (tsCons (tName 2 5) (tsCons (tName 2 6) tsNil))) (mc := mB (mOp2 gLt (mOp2 gIx (mVar 5) (mOp1 gNeg (mK (.int 1)))) (mOp2 gIx (mVar 6) (mK (.int 0))))) (me := mK (.int 1))
    (E := [.im (tI xs), .im (.list (rs.map tI)), .im (tI xs), s, .no, .no, .no]) pairT (fun _ => false) (fun p => .int 1) (L := rs.zip rs.tail) fun p hp => by
      obtain ⟨m1, m2⟩ := zip_mem hp
      obtain ⟨x, hx⟩ : ∃ x, p.1.getLast? = some x := by
        cases h : p.1.getLast? with
        | none => exact absurd (List.getLast?_eq_none_iff.mp h) (R.ne _ m1)
        | some x => exact ⟨x, rfl⟩
      obtain ⟨y, hy⟩ : ∃ y, p.2.head? = some y := by
        cases h : p.2.head? with
        | none => exact absurd (List.head?_eq_none_iff.mp h) (R.ne _ m2)
        | some x => exact ⟨x, rfl⟩
      have lt := R.brk.zip p hp x y hx hy
      have ex : (p.1.map PyData.int).getLast? = some (.int x) := by rw [List.getLast?_map, hx]; rfl
      have ey : (p.2.map PyData.int)[0]? = some (.int y) := by rw [← List.head?_eq_getElem?, List.head?_map, hy]; rfl
      obtain ⟨b1, _⟩ := atI_last ex
      refine ⟨[.im (tI xs), .im (.list (rs.map tI)), .im (tI xs), s, .no, .im (tI p.1), .im (tI p.2)], [.im (tI xs), .im (.list (rs.map tI)), .im (tI xs), s, .no, .im (tI p.1), .im (tI p.2)], ?_, ?_, (fun h => by cases h), rfl⟩
      · simp [pairT, tTuple, tsCons, tsNil, tName, setSl, Sl.own]
      · unfold tI
        have ey' : (p.2.map PyData.int).head? = some (.int y) := by rw [List.head?_map, hy]; rfl
        simp [mVar, b1, ey, ey', lt]
  have e0 : gEq (.im (tI xs)) (.im (tI xs)) = some (.im (.bool true)) := by simp
  have e1 : gEq (.ol []) (.ol []) = some (.im (.bool true)) := gEq_ints [] []
  have ef : (rs.zip rs.tail).filter (fun _ => false) = [] := List.filter_eq_nil_iff.mpr fun _ _ h => by cases h
  rw [ef, List.map_nil] at lc
  have e2 : cutD (rs.map tI) (some 1) none = (rs.map tI).tail := by rw [cut1, List.drop_one]
  have e3 : zipD (rs.map tI) (rs.map tI).tail = (rs.zip rs.tail).map pairT := by rw [← List.map_tail]; exact zipD_tI _ _
  have en : tI [] = .tuple [] := rfl
  rw [en] at q1
  unfold rrB at q1
  unfold f__law_runs_right fnOf m__law_runs_right
  simp [mVar, sStore, setSl, Sl.own, q1, mSlice, mPart, mNoPart, view, mZip, e2, seqD, e3, wipeE, lc, e0, e1, opv2, outsOf]
end TL

set_option maxRecDepth 100000
namespace TL
open PySem PySem.Spec L2 PL

/-! ### one statement behind another -/
theorem step_nx {a b : MS} {env env' : En} {P : En → Prop} (h : a env = .nx env') (k : ∃ e2, b env' = .nx e2 ∧ P e2) : ∃ e2, sSeq a b env = .nx e2 ∧ P e2 := by
  rw [ap_seq, h]
  exact k
theorem len15 {r : List Sl} (h : r.length = 15) : ∃ a b c d e f g i j k l m n o p, r = [a, b, c, d, e, f, g, i, j, k, l, m, n, o, p] := by
  match r, h with
  | [a, b, c, d, e, f, g, i, j, k, l, m, n, o, p], _ => exact ⟨a, b, c, d, e, f, g, i, j, k, l, m, n, o, p, rfl⟩
theorem good_cand {n : Int} {o : Act} (h : GoodAct n o) (hn : n ≤ 16) : Cand (actD o) := by
  have hl : o.items.length < 64 := by
    have q : Right 16 o.items := ⟨by decide, by decide, fun x hx => by have := h.mem x hx; omega, h.asc.imp fun h e => by omega⟩
    have := q.len
    omega
  refine .op _ _ ?_ (nice_tI _) (ordAll_tI _) rfl fun ds e => ?_
  · unfold wordS
    split
    · exact nice_add
    · exact nice_remove
  · cases e
    rw [List.length_map]
    exact hl
theorem good_isOp {n : Int} {o : Act} (h : GoodAct n o) : isOp n (actD o) = true := by
  have ha : areItems n (tI o.items) = true := by
    rw [areItems_tI, List.all_eq_true]
    intro x hx
    have := h.mem x hx
    simp [this.1, this.2]
  unfold actD
  rw [isOp_yes ha]
  have hw : (decide (wordS o.add = "add") || decide (wordS o.add = "remove")) = true := by
    unfold wordS
    split <;> simp
  rw [hw, (ascB_iff _).mpr h.asc]
  simp [h.ne]
theorem cut_to (ds : List D) (k : Int) (h0 : 0 ≤ k) (h1 : k ≤ ds.length) : cutD ds none (some k) = ds.take k.toNat := by
  unfold cutD HT.sIx
  have e : ¬ k < 0 := by omega
  have e2 : min k.toNat ds.length = k.toNat := by omega
  simp [e, e2]
theorem cut_from (ds : List D) (k : Int) (h0 : 0 ≤ k) (h1 : k ≤ ds.length) : cutD ds (some k) none = ds.drop k.toNat := by
  unfold cutD HT.sIx
  have e : ¬ k < 0 := by omega
  have e2 : min k.toNat ds.length = k.toNat := by omega
  simp [e, e2]
  exact List.take_of_length_le (by rw [List.length_drop]; omega)
/-- the loop over odd operations: its body -/
def oddB : MS := (sSeq (sSet 1 12 (mCall 1 [true, false] TL.f__law_take (mCons (mVar 2) (mCons (mOp2 gAdd (mCB gLen (mCons (mVar 9) mNil)) (mK (.int 1))) mNil))))
    (sSeq (sSet 1 13 (mOp2 gAdd (mOp2 gAdd (mSlice (mVar 9) mNoPart (mPart (mVar 12))) (mTup 1 (mCons (mVar 11) mNil))) (mSlice (mVar 9) (mPart (mVar 12)) mNoPart)))
    (sSeq (sIf (mAnd (mB (mOp2 gIsNotB (mCall 1 [false, false] TL.f_is_script (mCons (mVar 4) (mCons (mVar 13) mNil))) (mK (.bool true)))) (mTru (mCall 1 [false, false] TL.f__law_is_action (mCons (mVar 4) (mCons (mVar 11) mNil)))))
    (sRet 1 (mK (.bool false)))
    sNext)
    (sIf (mAnd (mB (mOp2 gIsNotB (mCall 1 [false, false] TL.f_is_script (mCons (mVar 4) (mCons (mVar 13) mNil))) (mK (.bool false)))) (mNot (mTru (mCall 1 [false, false] TL.f__law_is_action (mCons (mVar 4) (mCons (mVar 11) mNil))))))
    (sRet 1 (mK (.bool false)))
    sNext))))
theorem oddB_eq (S : Sl) (s1 s3 s5 s6 s7 s8 s10 s12 s13 s14 s15 : Sl) (a b n : Int) (as : List Act) (d : D) (h0 : 1 ≤ n) (h1 : n ≤ 16) (hs : ∀ o ∈ as, GoodAct n o) (hl : as.length ≤ 10) (hd : Cand d) :
    ∃ a' b' s12' s13', oddB [S, s1, bagS a b, s3, .im (.int n), s5, s6, s7, s8, .im (.tuple (as.map actD)), s10, .im d, s12, s13, s14, s15] = .nx [S, s1, bagS a' b', s3, .im (.int n), s5, s6, s7, s8, .im (.tuple (as.map actD)), s10, .im d, s12', s13', s14, s15] := by
  obtain ⟨r, a1, b1, h2, h3, h4⟩ := take_ex a b (as.length + 1) (by omega) (by omega)
  have c1 : ∀ env : En, env[2]? = some (bagS a b) → callS 1 [true, false] f__law_take [.var 2, .im (.int (as.length + 1))] env = .ok (.im (.int r)) (env.set 2 (bagS a1 b1)) := fun env he => callB he rfl h4
  have hr : r ≤ ((as.map actD).length : Int) := by rw [List.length_map]; omega
  have e1 := cut_to (as.map actD) r h2 hr
  have e2 := cut_from (as.map actD) r h2 hr
  have hc : ∀ x ∈ (as.map actD).take r.toNat ++ [d] ++ (as.map actD).drop r.toNat, Cand x := by
    intro x hx
    have key : ∀ x, x ∈ as.map actD → Cand x := fun x hx => by
      obtain ⟨o, ho, rfl⟩ := List.mem_map.mp hx
      exact good_cand (hs o ho) h1
    rw [List.mem_append, List.mem_append] at hx
    rcases hx with (hx | hx) | hx
    · exact key x (List.mem_of_mem_take hx)
    · rw [List.mem_singleton.mp hx]; exact hd
    · exact key x (List.mem_of_mem_drop hx)
  have hlen : ((as.map actD).take r.toNat ++ [d] ++ (as.map actD).drop r.toNat).length = as.length + 1 := by
    simp
    omega
  have hall : ((as.map actD).take r.toNat ++ [d] ++ (as.map actD).drop r.toNat).all (isOp n) = isOp n d := by
    have key : (as.map actD).all (isOp n) = true := by
      rw [List.all_eq_true]
      intro x hx
      obtain ⟨o, ho, rfl⟩ := List.mem_map.mp hx
      exact good_isOp (hs o ho)
    have sp := List.take_append_drop r.toNat (as.map actD)
    rw [← sp, List.all_append, Bool.and_eq_true] at key
    rw [List.all_append, List.all_append, key.1, key.2]
    simp
  have hsc := is_script_eq (n := n) h0 h1 hc
  rw [hall, hlen, show decide (as.length + 1 ≤ 40) = true from decide_eq_true (by omega), Bool.true_and] at hsc
  have c2 := fun np env => call2 (np := np) (env := env) hsc
  have c3 := fun np env => call2 (np := np) (env := env) (is_action_eq (n := n) hd)
  have l1 : min r.toNat as.length + 1 ≤ sizeLine := by rw [sizeLine_eq]; omega
  have l2 : min r.toNat as.length + 1 + (as.length - r.toNat) ≤ sizeLine := by rw [sizeLine_eq]; omega
  refine ⟨a1, b1, .im (.int r), .im (.tuple ((as.map actD).take r.toNat ++ [d] ++ (as.map actD).drop r.toNat)), ?_⟩
  unfold oddB
  generalize hv : (as.map actD).take r.toNat ++ [d] ++ (as.map actD).drop r.toNat = vs at *
  have g1 : gAdd (.im (.tuple ((as.map actD).take r.toNat))) (.im (.tuple [d])) = some (.im (.tuple ((as.map actD).take r.toNat ++ [d]))) := by
    unfold gAdd
    simp [l1]
  have g2 : gAdd (.im (.tuple ((as.map actD).take r.toNat ++ [d]))) (.im (.tuple ((as.map actD).drop r.toNat))) = some (.im (.tuple vs)) := by
    rw [← hv]
    unfold gAdd
    simp [l2]
  unfold bagS at *
  try simp at c1
  cases hb : isOp n d with
  | true =>
    rw [hb] at c2 c3
    simp [mVar, c1, sStore, setSl, Sl.own, mSlice, mPart, mNoPart, view, e1, e2, g1, g2, c2, c3, gIsNotB, truS]
  | false =>
    rw [hb] at c2 c3
    simp [mVar, c1, sStore, setSl, Sl.own, mSlice, mPart, mNoPart, view, e1, e2, g1, g2, c2, c3, gIsNotB, truS]
theorem gAdd_ol (xs ys : List D) : gAdd (.ol xs) (.ol ys) = if xs.length + ys.length ≤ sizeLine then some (.tmp (.ol (xs ++ ys))) else none := rfl
/-- the law's odd values -/
def oddD (n : Int) (o : Act) : List D := [.tuple [.str "add", .tuple []], .tuple [.str "add", .tuple [.int 2, .int 1]], .tuple [.str "add", .tuple [.int 1, .int 1]], .tuple [.str "add", .tuple [.int 0]], .tuple [.str "add", .tuple [.int (n + 1)]], .tuple [.str "Add", .tuple [.int 1]],
  .tuple [.str "add", .list [.int 1]], .list [.str "add", .tuple [.int 1]], .tuple [.str "add", .tuple [.bool true]], .tuple [.str "add", .int 1], .tuple [.str "remove", .tuple [.int 1], .int 1], .tuple [], .none, .str "add", actD o, .tuple [.str "remove", .tuple [.int 1]]]
theorem cand_ints {w : Str} (hw : nice (.str w) = true) (xs : List Int) (h : xs.length < 64) : Cand (.tuple [.str w, tI xs]) :=
  .op w _ hw (nice_tI xs) (ordAll_tI xs) rfl fun ds e => by cases e; rw [List.length_map]; exact h
theorem odd_cand {n : Int} {o : Act} (h : GoodAct n o) (hn : n ≤ 16) : ∀ d ∈ oddD n o, Cand d := by
  have nA : nice (.str "Add") = true := by decide +kernel
  intro d hd
  unfold oddD at hd
  simp only [List.mem_cons, List.not_mem_nil, or_false] at hd
  rcases hd with rfl | rfl | rfl | rfl | rfl | rfl | rfl | rfl | rfl | rfl | rfl | rfl | rfl | rfl | rfl | rfl
  · exact cand_ints nice_add [] (by decide)
  · exact cand_ints nice_add [2, 1] (by decide)
  · exact cand_ints nice_add [1, 1] (by decide)
  · exact cand_ints nice_add [0] (by decide)
  · exact cand_ints nice_add [n + 1] (show 1 < 64 by decide)
  · exact cand_ints nA [1] (by decide)
  · exact .op _ _ nice_add (nice_ints [1]) rfl rfl fun ds e => by cases e
  · exact .lst _
  · exact .op _ _ nice_add (by decide +kernel) rfl rfl fun ds e => by cases e; decide
  · exact .op _ _ nice_add (nice_int 1) rfl rfl fun ds e => by cases e
  · exact .tup _ (by decide)
  · exact .tup _ (by decide)
  · exact .non
  · exact .str _
  · exact good_cand h hn
  · exact cand_ints nice_remove [1] (by decide)
theorem lc14 (S s1 s2 s3 s6 s7 s8 s9 s10 s11 s12 s13 s15 : Sl) (n : Int) (xs : List Int) : lcLoop 1 [14] (tName 1 14) (mB (mOp2 gNotIn (mVar 14) (mVar 5))) (mVar 14) ((ups n).map .int) [S, s1, s2, s3, .im (.int n), .im (tI xs), s6, s7, s8, s9, s10, s11, s12, s13, .no, s15]
    = .ok ((leftI n xs).map .int) [S, s1, s2, s3, .im (.int n), .im (tI xs), s6, s7, s8, s9, s10, s11, s12, s13, .no, s15] :=
  lc_map (np := 1) (vs := [14]) (mt := tName 1 14) (mc := mB (mOp2 gNotIn (mVar 14) (mVar 5))) (me := mVar 14) (E := [S, s1, s2, s3, .im (.int n), .im (tI xs), s6, s7, s8, s9, s10, s11, s12, s13, .no, s15]) PyData.int (fun x => decide (x ∉ xs)) PyData.int (L := ups n) fun z _ => by
      refine ⟨[S, s1, s2, s3, .im (.int n), .im (tI xs), s6, s7, s8, s9, s10, s11, s12, s13, .im (.int z), s15], [S, s1, s2, s3, .im (.int n), .im (tI xs), s6, s7, s8, s9, s10, s11, s12, s13, .im (.int z), s15], rfl, ?_, fun _ => ⟨rfl, rfl⟩, rfl⟩
      simp [mVar, gNotIn_tI]
/-- the operations drawn -/
theorem acts_ex (S s1 s3 s5 s6 s7 s8 s9 s10 s11 s12 s13 s14 : Sl) (a b n : Int) (h0 : 1 ≤ n) (h1 : n ≤ 16) (m : Nat) : ∃ (as : List Act) (a' b' : Int), (∀ o ∈ as, GoodAct n o) ∧ as.length ≤ m ∧
    lcLoop 1 [15] (tName 1 15) mYes (mCall 1 [true, false] TL.f__law_step (mCons (mVar 2) (mCons (mVar 4) mNil))) (rangeD 0 m) [S, s1, bagS a b, s3, .im (.int n), s5, s6, s7, s8, s9, s10, s11, s12, s13, s14, .no]
      = .ok (as.map actD) [S, s1, bagS a' b', s3, .im (.int n), s5, s6, s7, s8, s9, s10, s11, s12, s13, s14, .no] := by
  let I : En → Prop := fun e => ∃ a b, e = [S, s1, bagS a b, s3, .im (.int n), s5, s6, s7, s8, s9, s10, s11, s12, s13, s14, .no]
  have hI : ∀ e, I e ↔ ∃ a b, e = [S, s1, bagS a b, s3, .im (.int n), s5, s6, s7, s8, s9, s10, s11, s12, s13, s14, .no] := fun _ => .rfl
  obtain ⟨ds', rs, E', q1, q2, q3, q4⟩ := lc_inv (np := 1) (vs := [15]) (mt := tName 1 15) (mc := mYes) (me := mCall 1 [true, false] TL.f__law_step (mCons (mVar 2) (mCons (mVar 4) mNil))) (I := I) (R := fun _ y => ∃ o, y = actD o ∧ GoodAct n o) (ds := rangeD 0 m) ((hI _).mpr ⟨a, b, rfl⟩)
    fun d hd E hE => by
      obtain ⟨a1, b1, rfl⟩ := (hI _).mp hE
      obtain ⟨o, a2, b2, g, h4⟩ := step_ex a1 b1 n h0 h1
      have c : callS 1 [true, false] f__law_step [.var 2, .im (.int n)] [S, s1, bagS a1 b1, s3, .im (.int n), s5, s6, s7, s8, s9, s10, s11, s12, s13, s14, .im d] = .ok (.im (actD o)) _ := callB rfl rfl h4
      refine ⟨[S, s1, bagS a1 b1, s3, .im (.int n), s5, s6, s7, s8, s9, s10, s11, s12, s13, s14, .im d], true, _, rfl, rfl, (fun h => by cases h), fun _ => ⟨actD o, [S, s1, bagS a2 b2, s3, .im (.int n), s5, s6, s7, s8, s9, s10, s11, s12, s13, s14, .im d], ?_, ⟨o, rfl, g⟩, (hI _).mpr ⟨a2, b2, rfl⟩⟩⟩
      unfold bagS at *
      try simp at c
      simp [mVar, c]
  obtain ⟨a3, b3, rfl⟩ := (hI _).mp q2
  obtain ⟨as, h1, rfl⟩ : ∃ as : List Act, (∀ o ∈ as, GoodAct n o) ∧ rs = as.map actD := by
    clear q1 q3
    induction q4 with
    | nil => exact ⟨[], fun o h => (by cases h), rfl⟩
    | cons hr _ ih =>
      obtain ⟨o, rfl, g⟩ := hr
      obtain ⟨as, h, rfl⟩ := ih
      exact ⟨o :: as, fun x hx => by
        rcases List.mem_cons.mp hx with e | e
        · rw [e]; exact g
        · exact h x e, rfl⟩
  refine ⟨as, a3, b3, h1, ?_, q1⟩
  have l1 := Paired.len q4
  have l2 := q3.length_le
  rw [rangeD_length] at l2
  rw [List.length_map] at l1
  omega
def bodyB : MS := (sSeq (sSet 1 2 (mCall 1 [false, false] TL.f__law_bag (mCons (mVar 0) (mCons (mVar 1) mNil))))
    (sSeq (sSet 1 3 (mCall 1 [true, false] TL.f__law_state (mCons (mVar 2) (mCons (mK (.int 16)) mNil))))
    (sSeq (sUnp 1 (tTuple 2 (tsCons (tName 1 4) (tsCons (tName 1 5) tsNil))) (mVar 3))
    (sSeq (sPar 1 [6, 7] (mCons (mCall 1 [false] TL.f_left (mCons (mVar 3) mNil)) (mCons (mLc 1 [14] (mRng2 (mK (.int 1)) (mOp2 gAdd (mVar 4) (mK (.int 1)))) (tName 1 14) (mB (mOp2 gNotIn (mVar 14) (mVar 5))) (mVar 14)) mNil)))
    (sSeq (sIf (mOr (mB (mOp2 gNe (mVar 6) (mVar 7))) (mNot (mTru (mCall 1 [false, false] TL.f__law_runs_right (mCons (mVar 5) (mCons (mCall 1 [false] TL.f_runs (mCons (mVar 3) mNil)) mNil))))))
    (sRet 1 (mK (.bool false)))
    sNext)
    (sSeq (sDrop (mAppend 1 6 (mK (.int 0))))
    (sSeq (sSet 1 8 (mCall 1 [false] TL.f_runs (mCons (mVar 3) mNil)))
    (sSeq (sDrop (mAppend 1 8 (mTup 1 mNil)))
    (sSeq (sIf (mOr (mB (mOp2 gNe (mCall 1 [false] TL.f_left (mCons (mVar 3) mNil)) (mVar 7))) (mNot (mTru (mCall 1 [false, false] TL.f__law_runs_right (mCons (mVar 5) (mCons (mCall 1 [false] TL.f_runs (mCons (mVar 3) mNil)) mNil))))))
    (sRet 1 (mK (.bool false)))
    sNext)
    (sSeq (sSet 1 9 (mCB gTuple (mCons (mLc 1 [15] (mRng1 (mCall 1 [true, false] TL.f__law_take (mCons (mVar 2) (mCons (mK (.int 5)) mNil)))) (tName 1 15) mYes (mCall 1 [true, false] TL.f__law_step (mCons (mVar 2) (mCons (mVar 4) mNil)))) mNil)))
    (sSeq (sSet 1 10 (mLst 1 (mCons (mTup 1 (mCons (mK (.str "add")) (mCons (mTup 1 mNil) mNil))) (mCons (mTup 1 (mCons (mK (.str "add")) (mCons (mTup 1 (mCons (mK (.int 2)) (mCons (mK (.int 1)) mNil))) mNil))) (mCons (mTup 1 (mCons (mK (.str "add")) (mCons (mTup 1 (mCons (mK (.int 1)) (mCons (mK (.int 1)) mNil))) mNil))) (mCons (mTup 1 (mCons (mK (.str "add")) (mCons (mTup 1 (mCons (mK (.int 0)) mNil)) mNil))) (mCons (mTup 1 (mCons (mK (.str "add")) (mCons (mTup 1 (mCons (mOp2 gAdd (mVar 4) (mK (.int 1))) mNil)) mNil))) (mCons (mTup 1 (mCons (mK (.str "Add")) (mCons (mTup 1 (mCons (mK (.int 1)) mNil)) mNil))) mNil))))))))
    (sSeq (sSet 1 10 (mOp2 gAdd (mVar 10) (mLst 1 (mCons (mTup 1 (mCons (mK (.str "add")) (mCons (mLst 1 (mCons (mK (.int 1)) mNil)) mNil))) (mCons (mLst 1 (mCons (mK (.str "add")) (mCons (mTup 1 (mCons (mK (.int 1)) mNil)) mNil))) (mCons (mTup 1 (mCons (mK (.str "add")) (mCons (mTup 1 (mCons (mK (.bool true)) mNil)) mNil))) (mCons (mTup 1 (mCons (mK (.str "add")) (mCons (mK (.int 1)) mNil))) (mCons (mTup 1 (mCons (mK (.str "remove")) (mCons (mTup 1 (mCons (mK (.int 1)) mNil)) (mCons (mK (.int 1)) mNil)))) (mCons (mTup 1 mNil) (mCons (mK .none) (mCons (mK (.str "add")) mNil)))))))))))
    (sSeq (sFor (mSeq 1 (mOp2 gAdd (mVar 10) (mLst 1 (mCons (mCall 1 [true, false] TL.f__law_step (mCons (mVar 2) (mCons (mVar 4) mNil))) (mCons (mTup 1 (mCons (mK (.str "remove")) (mCons (mTup 1 (mCons (mK (.int 1)) mNil)) mNil))) mNil))))) (tName 1 11)
    (sSeq (sSet 1 12 (mCall 1 [true, false] TL.f__law_take (mCons (mVar 2) (mCons (mOp2 gAdd (mCB gLen (mCons (mVar 9) mNil)) (mK (.int 1))) mNil))))
    (sSeq (sSet 1 13 (mOp2 gAdd (mOp2 gAdd (mSlice (mVar 9) mNoPart (mPart (mVar 12))) (mTup 1 (mCons (mVar 11) mNil))) (mSlice (mVar 9) (mPart (mVar 12)) mNoPart)))
    (sSeq (sIf (mAnd (mB (mOp2 gIsNotB (mCall 1 [false, false] TL.f_is_script (mCons (mVar 4) (mCons (mVar 13) mNil))) (mK (.bool true)))) (mTru (mCall 1 [false, false] TL.f__law_is_action (mCons (mVar 4) (mCons (mVar 11) mNil)))))
    (sRet 1 (mK (.bool false)))
    sNext)
    (sIf (mAnd (mB (mOp2 gIsNotB (mCall 1 [false, false] TL.f_is_script (mCons (mVar 4) (mCons (mVar 13) mNil))) (mK (.bool false)))) (mNot (mTru (mCall 1 [false, false] TL.f__law_is_action (mCons (mVar 4) (mCons (mVar 11) mNil))))))
    (sRet 1 (mK (.bool false)))
    sNext)))))
    (sSeq (sIf (mB (mOp2 gNe (mLc 1 [13] (mSeq 1 (mLst 1 (mCons (mK .none) (mCons (mLst 1 mNil) (mCons (mCB gList (mCons (mVar 9) mNil)) (mCons (mK (.str "add")) (mCons (mK (.int 3)) mNil))))))) (tName 1 13) (mB (mOp2 gIsNotB (mCall 1 [false, false] TL.f_is_script (mCons (mVar 4) (mCons (mVar 13) mNil))) (mK (.bool false)))) (mVar 13)) (mLst 1 mNil)))
    (sRet 1 (mK (.bool false)))
    sNext)
    (sIf (mOr (mNot (mTru (mCall 1 [false, false] TL.f_is_script (mCons (mVar 4) (mCons (mOp2 gMul (mTup 1 (mCons (mTup 1 (mCons (mK (.str "add")) (mCons (mTup 1 (mCons (mK (.int 1)) mNil)) mNil))) mNil)) (mK (.int 40))) mNil))))) (mTru (mCall 1 [false, false] TL.f_is_script (mCons (mVar 4) (mCons (mOp2 gMul (mTup 1 (mCons (mTup 1 (mCons (mK (.str "add")) (mCons (mTup 1 (mCons (mK (.int 1)) mNil)) mNil))) mNil)) (mK (.int 41))) mNil)))))
    (sRet 1 (mK (.bool false)))
    sNext)))))))))))))))
theorem body_ok (ns : List Int) (k : Nat) (hk : k < 1000) (s2 s3 s4 s5 s6 s7 s8 s9 s10 s11 s12 s13 s14 s15 : Sl) : ∃ e2, bodyB [scrS ns, .im (.int k), s2, s3, s4, s5, s6, s7, s8, s9, s10, s11, s12, s13, s14, s15] = .nx e2 ∧ ∃ r : List Sl, r.length = 15 ∧ e2 = scrS ns :: r := by
  unfold bodyB
  obtain ⟨a, b, h1⟩ := bag_ex ns k hk
  have c1 : callS 1 [false, false] f__law_bag [.im (.dict [(.none, .list (ns.map .int))]), .im (.int k)] [scrS ns, .im (.int k), s2, s3, s4, s5, s6, s7, s8, s9, s10, s11, s12, s13, s14, s15] = .ok (.tmp (bagS a b)) [scrS ns, .im (.int k), s2, s3, s4, s5, s6, s7, s8, s9, s10, s11, s12, s13, s14, s15] := call2T h1
  refine step_nx (env' := [scrS ns, .im (.int k), bagS a b, s3, s4, s5, s6, s7, s8, s9, s10, s11, s12, s13, s14, s15]) ?_ ?_
  · unfold scrS bagS at *
    simp [mVar, c1, sStore, setSl]
  clear c1 h1
  obtain ⟨n, xs, a1, b1, R, _, h2⟩ := state_ex a b 16 (by decide) (by decide)
  have c2 : callS 1 [true, false] f__law_state [.var 2, .im (.int 16)] [scrS ns, .im (.int k), bagS a b, s3, s4, s5, s6, s7, s8, s9, s10, s11, s12, s13, s14, s15] = .ok (.im (stD n xs)) [scrS ns, .im (.int k), bagS a1 b1, s3, s4, s5, s6, s7, s8, s9, s10, s11, s12, s13, s14, s15] := callB rfl rfl h2
  refine step_nx (env' := [scrS ns, .im (.int k), bagS a1 b1, .im (stD n xs), s4, s5, s6, s7, s8, s9, s10, s11, s12, s13, s14, s15]) ?_ ?_
  · unfold bagS at *
    simp [mVar, c2, sStore, setSl]
  clear c2 h2
  generalize hS : scrS ns = S
  refine step_nx (env' := [S, .im (.int k), bagS a1 b1, .im (stD n xs), .im (.int n), .im (tI xs), s6, s7, s8, s9, s10, s11, s12, s13, s14, s15]) ?_ ?_
  · unfold stD
    simp [mVar, tTuple, tsCons, tsNil, tName, setSl]
  have hn0 := R.lo
  have hn1 := R.hi
  have cL := fun np env => call1T (np := np) (env := env) (left_eq R)
  have cR := fun np env => call1T (np := np) (env := env) (runs_eq R)
  have ck := fun np env => call2 (np := np) (env := env) (runs_right_eq (runsI_ok xs) (by have := R.len; omega))
  have e1 : (-1000000 ≤ (1 : Int) ∧ (1 : Int) ≤ 1000000) ∧ -1000000 ≤ n + 1 ∧ n + 1 ≤ 1000000 := by omega
  have e3 : rangeD 1 n.toNat = (ups n).map .int := by rw [← rangeD_ups, show n + 1 - 1 = n by omega]
  refine step_nx (env' := [S, .im (.int k), bagS a1 b1, .im (stD n xs), .im (.int n), .im (tI xs), .ol ((leftI n xs).map .int), .ol ((leftI n xs).map .int), s8, s9, s10, s11, s12, s13, .no, s15]) ?_ ?_
  · have lc := lc14 S (.im (.int k)) (bagS a1 b1) (.im (stD n xs)) s6 s7 s8 s9 s10 s11 s12 s13 s15 n xs
    simp [mVar, cL, mRng2, e1, e3, wipeE, lc, setSl]
  have gN := gNe_ints (leftI n xs) (leftI n xs)
  have gN2 : gNe (.ol ((leftI n xs).map .int)) (.ol ((leftI n xs).map .int)) = some (.im (.bool false)) := by rw [gN]; simp
  refine step_nx (env' := [S, .im (.int k), bagS a1 b1, .im (stD n xs), .im (.int n), .im (tI xs), .ol ((leftI n xs).map .int), .ol ((leftI n xs).map .int), s8, s9, s10, s11, s12, s13, .no, s15]) ?_ ?_
  · simp [mVar, opv2, view, gN2, cR, ck, truS]
  have l1 : (leftI n xs).length < sizeLine := by
    have := List.length_filter_le (fun x => decide (x ∉ xs)) (ups n)
    rw [ups_length] at this
    unfold leftI
    rw [sizeLine_eq]
    omega
  refine step_nx (env' := [S, .im (.int k), bagS a1 b1, .im (stD n xs), .im (.int n), .im (tI xs), .ol ((leftI n xs).map .int ++ [.int 0]), .ol ((leftI n xs).map .int), s8, s9, s10, s11, s12, s13, .no, s15]) ?_ ?_
  · simp [mAppend, l1]
  have l2 : (runsI xs).length < sizeLine := by
    have := ne_le (runsI_ok xs).ne
    rw [(runsI_ok xs).flat] at this
    have := R.len
    rw [sizeLine_eq]
    omega
  refine step_nx (env' := [S, .im (.int k), bagS a1 b1, .im (stD n xs), .im (.int n), .im (tI xs), .ol ((leftI n xs).map .int ++ [.int 0]), .ol ((leftI n xs).map .int), .ol ((runsI xs).map tI), s9, s10, s11, s12, s13, .no, s15]) ?_ ?_
  · simp [mVar, cR, sStore, setSl]
  refine step_nx (env' := [S, .im (.int k), bagS a1 b1, .im (stD n xs), .im (.int n), .im (tI xs), .ol ((leftI n xs).map .int ++ [.int 0]), .ol ((leftI n xs).map .int), .ol ((runsI xs).map tI ++ [.tuple []]), s9, s10, s11, s12, s13, .no, s15]) ?_ ?_
  · simp [mAppend, l2]
  refine step_nx (env' := [S, .im (.int k), bagS a1 b1, .im (stD n xs), .im (.int n), .im (tI xs), .ol ((leftI n xs).map .int ++ [.int 0]), .ol ((leftI n xs).map .int), .ol ((runsI xs).map tI ++ [.tuple []]), s9, s10, s11, s12, s13, .no, s15]) ?_ ?_
  · simp [mVar, opv2, view, cL, gN2, cR, ck, truS]
  generalize hs6 : Sl.ol ((leftI n xs).map .int ++ [.int 0]) = S6
  generalize hs7 : Sl.ol ((leftI n xs).map .int) = S7
  generalize hs8 : Sl.ol ((runsI xs).map tI ++ [.tuple []]) = S8
  obtain ⟨r, a2, b2, h5, h6, h7⟩ := take_ex a1 b1 5 (by decide) (by decide)
  have c5 : callS 1 [true, false] f__law_take [.var 2, .im (.int 5)] [S, .im (.int k), bagS a1 b1, .im (stD n xs), .im (.int n), .im (tI xs), S6, S7, S8, s9, s10, s11, s12, s13, .no, s15] = .ok (.im (.int r)) [S, .im (.int k), bagS a2 b2, .im (stD n xs), .im (.int n), .im (tI xs), S6, S7, S8, s9, s10, s11, s12, s13, .no, s15] := callB rfl rfl h7
  obtain ⟨as, a3, b3, g1, g2, lc15⟩ := acts_ex S (.im (.int k)) (.im (stD n xs)) (.im (tI xs)) S6 S7 S8 s9 s10 s11 s12 s13 .no a2 b2 n hn0 hn1 r.toNat
  refine step_nx (env' := [S, .im (.int k), bagS a3 b3, .im (stD n xs), .im (.int n), .im (tI xs), S6, S7, S8, .im (.tuple (as.map actD)), s10, s11, s12, s13, .no, .no]) ?_ ?_
  · have er : r ≤ 1000000 ∧ -1000000 ≤ r := by omega
    unfold bagS at *
    simp [mVar, c5, mRng1, er, wipeE, lc15, gTuple, items, sStore, setSl]
  clear c5 h7 lc15
  let odd1 : List D := [.tuple [.str "add", .tuple []], .tuple [.str "add", .tuple [.int 2, .int 1]], .tuple [.str "add", .tuple [.int 1, .int 1]], .tuple [.str "add", .tuple [.int 0]], .tuple [.str "add", .tuple [.int (n + 1)]], .tuple [.str "Add", .tuple [.int 1]]]
  let odd2 : List D := odd1 ++ [.tuple [.str "add", .list [.int 1]], .list [.str "add", .tuple [.int 1]], .tuple [.str "add", .tuple [.bool true]], .tuple [.str "add", .int 1], .tuple [.str "remove", .tuple [.int 1], .int 1], .tuple [], .none, .str "add"]
  refine step_nx (env' := [S, .im (.int k), bagS a3 b3, .im (stD n xs), .im (.int n), .im (tI xs), S6, S7, S8, .im (.tuple (as.map actD)), .ol odd1, s11, s12, s13, .no, .no]) ?_ ?_
  · simp [mVar, sStore, setSl, odd1]
  have sz : ∀ n : Nat, n ≤ 100 → n ≤ sizeLine := fun n h => by rw [sizeLine_eq]; omega
  refine step_nx (env' := [S, .im (.int k), bagS a3 b3, .im (stD n xs), .im (.int n), .im (tI xs), S6, S7, S8, .im (.tuple (as.map actD)), .ol odd2, s11, s12, s13, .no, .no]) ?_ ?_
  · have z := sz 14 (by decide)
    simp [mVar, opv2, view, gAdd, sStore, setSl, odd1, odd2, Sl.own, z]
  obtain ⟨o, a4, b4, go, h8⟩ := step_ex a3 b3 n hn0 hn1
  have c8 : callS 1 [true, false] f__law_step [.var 2, .im (.int n)] [S, .im (.int k), bagS a3 b3, .im (stD n xs), .im (.int n), .im (tI xs), S6, S7, S8, .im (.tuple (as.map actD)), .ol odd2, s11, s12, s13, .no, .no] = .ok (.im (actD o)) [S, .im (.int k), bagS a4 b4, .im (stD n xs), .im (.int n), .im (tI xs), S6, S7, S8, .im (.tuple (as.map actD)), .ol odd2, s11, s12, s13, .no, .no] := callB rfl rfl h8
  have eo : oddD n o = odd2 ++ [actD o, .tuple [.str "remove", .tuple [.int 1]]] := rfl
  have oc := odd_cand go hn1
  let I : En → Prop := fun e => ∃ a b t11 t12 t13, e = [S, .im (.int k), bagS a b, .im (stD n xs), .im (.int n), .im (tI xs), S6, S7, S8, .im (.tuple (as.map actD)), .ol odd2, t11, t12, t13, .no, .no]
  have hI : ∀ e, I e ↔ ∃ a b t11 t12 t13, e = [S, .im (.int k), bagS a b, .im (stD n xs), .im (.int n), .im (tI xs), S6, S7, S8, .im (.tuple (as.map actD)), .ol odd2, t11, t12, t13, .no, .no] := fun _ => .rfl
  obtain ⟨e9, q1, q2⟩ := loop_inv (mt := tName 1 11) (body := oddB) (I := I) (ds := oddD n o) (e := [S, .im (.int k), bagS a4 b4, .im (stD n xs), .im (.int n), .im (tI xs), S6, S7, S8, .im (.tuple (as.map actD)), .ol odd2, s11, s12, s13, .no, .no]) ((hI _).mpr ⟨a4, b4, s11, s12, s13, rfl⟩) fun d hd e he => by
    obtain ⟨a, b, t11, t12, t13, rfl⟩ := (hI _).mp he
    obtain ⟨a', b', u12, u13, q⟩ := oddB_eq S (.im (.int k)) (.im (stD n xs)) (.im (tI xs)) S6 S7 S8 (.ol odd2) t12 t13 .no .no a b n as d hn0 hn1 g1 (by omega) (oc d hd)
    exact ⟨[S, .im (.int k), bagS a b, .im (stD n xs), .im (.int n), .im (tI xs), S6, S7, S8, .im (.tuple (as.map actD)), .ol odd2, .im d, t12, t13, .no, .no], _, by simp [tName, setSl], .inl q, (hI _).mpr ⟨a', b', .im d, u12, u13, rfl⟩⟩
  obtain ⟨a5, b5, t11, t12, t13, rfl⟩ := (hI _).mp q2
  rw [eo] at q1
  refine step_nx (env' := [S, .im (.int k), bagS a5 b5, .im (stD n xs), .im (.int n), .im (tI xs), S6, S7, S8, .im (.tuple (as.map actD)), .ol odd2, t11, t12, t13, .no, .no]) ?_ ?_
  · unfold oddB at q1
    have z := sz 16 (by decide)
    have ga : gAdd (.ol odd2) (.ol [actD o, .tuple [.str "remove", .tuple [.int 1]]]) = some (.tmp (.ol (odd2 ++ [actD o, .tuple [.str "remove", .tuple [.int 1]]]))) := (gAdd_ol _ _).trans (if_pos (show odd2.length + 2 ≤ sizeLine from z))
    generalize odd2 = od at *
    generalize actD o = oo at *
    unfold bagS at *
    try simp at q1
    simp [mVar, c8, opv2, view, ga, q1]
  clear q1 c8 h8
  have cN := fun np env d h1 h2 => call2 (np := np) (env := env) (is_script_no (n := n) (d := d) hn0 hn1 h1 h2)
  refine step_nx (env' := [S, .im (.int k), bagS a5 b5, .im (stD n xs), .im (.int n), .im (tI xs), S6, S7, S8, .im (.tuple (as.map actD)), .ol odd2, t11, t12, .no, .no, .no]) ?_ ?_
  · have lc := lc_pure (np := 1) (vs := [13]) (mt := tName 1 13) (mc := mB (mOp2 gIsNotB (mCall 1 [false, false] TL.f_is_script (mCons (mVar 4) (mCons (mVar 13) mNil))) (mK (.bool false)))) (me := mVar 13) (E := [S, .im (.int k), bagS a5 b5, .im (stD n xs), .im (.int n), .im (tI xs), S6, S7, S8, .im (.tuple (as.map actD)), .ol odd2, t11, t12, .no, .no, .no]) (c := fun _ => false) (g := id) (ds := [.none, .list [], .list (as.map actD), .str "add", .int 3]) fun d hd => by
      have key : ordD d = true ∧ ∀ ds, d ≠ .tuple ds := by
        simp only [List.mem_cons, List.not_mem_nil, or_false] at hd
        rcases hd with rfl | rfl | rfl | rfl | rfl <;> exact ⟨rfl, fun ds h => by cases h⟩
      refine ⟨[S, .im (.int k), bagS a5 b5, .im (stD n xs), .im (.int n), .im (tI xs), S6, S7, S8, .im (.tuple (as.map actD)), .ol odd2, t11, t12, .im d, .no, .no], [], rfl, ?_, (fun h => by cases h), rfl⟩
      simp [mVar, cN _ _ d key.1 key.2, gIsNotB]
    have ef : ([.none, .list [], .list (as.map actD), .str "add", .int 3] : List D).filter (fun _ => false) = [] := List.filter_eq_nil_iff.mpr fun _ _ h => by cases h
    rw [ef, List.map_nil] at lc
    have gn : gNe (.ol []) (.ol []) = some (.im (.bool false)) := gNe_ints [] []
    simp [mVar, view, gList, items, wipeE, lc, opv2, gn]
  have cA : ∀ d ∈ List.replicate 40 (PyData.tuple [.str "add", tI [1]]), Cand d := fun d hd => by rw [List.eq_of_mem_replicate hd]; exact cand_ints nice_add [1] (by decide)
  have cB : ∀ d ∈ List.replicate 41 (PyData.tuple [.str "add", tI [1]]), Cand d := fun d hd => by rw [List.eq_of_mem_replicate hd]; exact cand_ints nice_add [1] (by decide)
  have i1 : isOp n (.tuple [.str "add", tI [1]]) = true := good_isOp (o := ⟨true, [1]⟩) ⟨by simp, fun x hx => by simp at hx; omega, by simp⟩
  have hA := is_script_eq (n := n) hn0 hn1 cA
  have hB := is_script_eq (n := n) hn0 hn1 cB
  have aA : (List.replicate 40 (PyData.tuple [.str "add", tI [1]])).all (isOp n) = true := List.all_eq_true.mpr fun d hd => by rw [List.eq_of_mem_replicate hd]; exact i1
  rw [List.length_replicate, aA] at hA
  rw [List.length_replicate] at hB
  have kA := fun np env => call2 (np := np) (env := env) hA
  have kB := fun np env => call2 (np := np) (env := env) hB
  refine ⟨[S, .im (.int k), bagS a5 b5, .im (stD n xs), .im (.int n), .im (tI xs), S6, S7, S8, .im (.tuple (as.map actD)), .ol odd2, t11, t12, .no, .no, .no], ?_, _, rfl, by rw [← hS]⟩
  have m40 : gMul (.im (.tuple [.tuple [.str "add", .tuple [.int 1]]])) (.im (.int 40)) = some (.im (.tuple (List.replicate 40 (PyData.tuple [.str "add", tI [1]])))) := rfl
  have m41 : gMul (.im (.tuple [.tuple [.str "add", .tuple [.int 1]]])) (.im (.int 41)) = some (.im (.tuple (List.replicate 41 (PyData.tuple [.str "add", tI [1]])))) := rfl
  generalize List.replicate 40 (PyData.tuple [.str "add", tI [1]]) = L40 at *
  generalize List.replicate 41 (PyData.tuple [.str "add", tI [1]]) = L41 at *
  simp [mVar, m40, m41, kA, kB, truS]
theorem right_2 : Right 5 [2, 1, 4, 3] := ⟨by decide, by decide, by decide, by decide⟩
theorem right_1 : Right 2 [] := ⟨by decide, by decide, by decide, by decide⟩
theorem right_0 : Right 2 [2, 1] := ⟨by decide, by decide, by decide, by decide⟩
theorem keeps_k02 : Keeps f_law_k02 := fun ns hl => by
  have hmin : ∃ m : Nat, m ≤ 10 ∧ gMin [.im (.int ns.length), .im (.int 8)] = some (.im (.int ((m : Int) - 2))) := by
    refine ⟨(if (8 : Int) < ns.length then 8 else ns.length) + 2, by split <;> omega, ?_⟩
    unfold gMin
    dsimp only
    congr 3
    split <;> omega
  obtain ⟨m, hm, hg⟩ := hmin
  let I : En → Prop := fun e => ∃ r : List Sl, r.length = 15 ∧ e = scrS ns :: r
  have hI : ∀ e, I e ↔ ∃ r : List Sl, r.length = 15 ∧ e = scrS ns :: r := fun _ => .rfl
  obtain ⟨e', q1, q2⟩ := loop_inv (mt := tName 1 1) (body := bodyB) (I := I) (ds := rangeD 0 m) (e := scrS ns :: List.replicate 15 .no) ((hI _).mpr ⟨_, rfl, rfl⟩) fun d hd e he => by
    obtain ⟨r, hr, rfl⟩ := (hI _).mp he
    obtain ⟨s1, s2, s3, s4, s5, s6, s7, s8, s9, s10, s11, s12, s13, s14, s15, rfl⟩ := len15 hr
    obtain ⟨i, hi⟩ := List.mem_iff_getElem?.mp hd
    obtain ⟨h1, rfl⟩ := rangeD_get hi
    obtain ⟨e2, b1, b2⟩ := body_ok ns i (by omega) s2 s3 s4 s5 s6 s7 s8 s9 s10 s11 s12 s13 s14 s15
    refine ⟨[scrS ns, .im (.int i), s2, s3, s4, s5, s6, s7, s8, s9, s10, s11, s12, s13, s14, s15], e2, ?_, .inl b1, (hI _).mpr b2⟩
    rw [Int.zero_add]
    simp [tName, setSl]
  obtain ⟨r, hr, rfl⟩ := (hI _).mp q2
  have r1 := fun np env => call1T (np := np) (env := env) (runs_eq right_2)
  have r2 := fun np env => call1T (np := np) (env := env) (runs_eq right_1)
  have r3 := fun np env => call1T (np := np) (env := env) (left_eq right_0)
  have v1 : runsI [2, 1, 4, 3] = [[2], [1, 4], [3]] := by decide
  have v2 : runsI [] = [] := rfl
  have v3 : leftI 2 [2, 1] = [] := by decide
  rw [v1] at r1
  rw [v2] at r2
  rw [v3] at r3
  have g1 : gEq (.ol [.tuple [.int 2], .tuple [.int 1, .int 4], .tuple [.int 3]]) (.ol [.tuple [.int 2], .tuple [.int 1, .int 4], .tuple [.int 3]]) = some (.im (.bool true)) := by
    have h := PySem.W.Datum.eqv (α := List (PySem.W.Tup Int)) [⟨[2]⟩, ⟨[1, 4]⟩, ⟨[3]⟩] [⟨[2]⟩, ⟨[1, 4]⟩, ⟨[3]⟩]
    have h : PyData.eqv (.list [.tuple [.int 2], .tuple [.int 1, .int 4], .tuple [.int 3]]) (.list [.tuple [.int 2], .tuple [.int 1, .int 4], .tuple [.int 3]]) = true := h
    have n : nice (.list [.tuple [.int 2], .tuple [.int 1, .int 4], .tuple [.int 3]]) = true := by decide +kernel
    unfold gEq
    simp only [content, n, h, and_self, if_true]
  have g2 : gEq (.ol []) (.ol []) = some (.im (.bool true)) := gEq_ints [] []
  have em : (-1000000 : Int) ≤ (m : Int) ∧ (m : Int) ≤ 1000000 := by omega
  refine ⟨outsOf [false] (scrS ns :: r), ?_⟩
  unfold bodyB at q1
  unfold f_law_k02 fnOf m_law_k02
  generalize sSeq (sSet 1 2 _) _ = body at q1 ⊢
  unfold stD tI at *
  unfold scrS at *
  simp at r1 r2 r3 q1
  simp [mVar, hg, mRng1, em, q1, r1, r2, r3, g1, g2, opv2]
end TL

set_option maxRecDepth 100000
namespace TL
open PySem PySem.Spec L2 PL

/-! ### a list after an operation -/
def afterI (xs : List Int) (o : Act) : List Int := if o.add then xs ++ o.items.filter (fun x => decide (x ∉ xs)) else xs.filter fun x => decide (x ∉ o.items)
theorem GoodAct.nd {n : Int} {o : Act} (h : GoodAct n o) : o.items.Nodup := h.asc.imp fun h e => by omega
theorem Right.after {n : Int} {xs : List Int} {o : Act} (h : Right n xs) (g : GoodAct n o) : Right n (afterI xs o) := by
  unfold afterI
  split
  · refine ⟨h.lo, h.hi, fun x hx => ?_, ?_⟩
    · rcases List.mem_append.mp hx with q | q
      · exact h.mem x q
      · exact g.mem x (List.mem_filter.mp q).1
    · refine List.nodup_append.mpr ⟨h.nd, g.nd.filter _, fun a ha b hb e => ?_⟩
      have := (List.mem_filter.mp hb).2
      rw [decide_eq_true_eq] at this
      exact this (e ▸ ha)
  · exact ⟨h.lo, h.hi, fun x hx => h.mem x (List.mem_filter.mp hx).1, h.nd.filter _⟩
theorem GoodAct.len {n : Int} {o : Act} (h : GoodAct n o) (hn : n ≤ 16) : o.items.length ≤ 16 := by
  have q : Right 16 o.items := ⟨by decide, by decide, fun x hx => by have := h.mem x hx; omega, h.nd⟩
  exact q.len
theorem nice_word (k : Bool) : nice (.str (wordS k)) = true := by cases k <;> first | exact nice_add | exact nice_remove
theorem gEq_add (k : Bool) : gEq (.im (.str (wordS k))) (.im (.str "add")) = some (.im (.bool k)) := by
  unfold gEq
  simp only [content, nice_word, nice_add, and_self, if_true, eqv_str]
  cases k <;> rfl
theorem gEq_rem (k : Bool) : gEq (.im (.str (wordS k))) (.im (.str "remove")) = some (.im (.bool (!k))) := by
  unfold gEq
  simp only [content, nice_word, nice_remove, and_self, if_true, eqv_str]
  cases k <;> rfl
theorem after_eq {n : Int} {xs : List Int} {o : Act} (h : Right n xs) (g : GoodAct n o) : f_after [.im (tI xs), .im (actD o)] = .ok (.im (tI (afterI xs o))) [] := by
  have l1 := h.len
  have l2 := g.len h.hi
  have lcA := lc_map (np := 2) (vs := [4]) (mt := tName 2 4) (mc := mB (mOp2 gNotIn (mVar 4) (mVar 0))) (me := mVar 4) (E := [.im (tI xs), .im (actD o), .im (.str (wordS o.add)), .im (tI o.items), .no]) PyData.int (fun x => decide (x ∉ xs)) PyData.int (L := o.items) fun z _ => by
    refine ⟨[.im (tI xs), .im (actD o), .im (.str (wordS o.add)), .im (tI o.items), .im (.int z)], [.im (tI xs), .im (actD o), .im (.str (wordS o.add)), .im (tI o.items), .im (.int z)], rfl, ?_, fun _ => ⟨rfl, rfl⟩, rfl⟩
    simp [mVar, gNotIn_tI]
  have lcR := lc_map (np := 2) (vs := [4]) (mt := tName 2 4) (mc := mB (mOp2 gNotIn (mVar 4) (mVar 3))) (me := mVar 4) (E := [.im (tI xs), .im (actD o), .im (.str (wordS o.add)), .im (tI o.items), .no]) PyData.int (fun x => decide (x ∉ o.items)) PyData.int (L := xs) fun z _ => by
    refine ⟨[.im (tI xs), .im (actD o), .im (.str (wordS o.add)), .im (tI o.items), .im (.int z)], [.im (tI xs), .im (actD o), .im (.str (wordS o.add)), .im (tI o.items), .im (.int z)], rfl, ?_, fun _ => ⟨rfl, rfl⟩, rfl⟩
    simp [mVar, gNotIn_tI]
  have ga := gEq_add o.add
  obtain ⟨k, os⟩ := o
  unfold f_after fnOf m_after afterI
  unfold actD at *
  dsimp only at *
  cases k with
  | true =>
    have lz : xs.length + (os.filter fun x => decide (x ∉ xs)).length ≤ sizeLine := by
      have := List.length_filter_le (fun x => decide (x ∉ xs)) os
      rw [sizeLine_eq]
      omega
    have gd : gAdd (.im (tI xs)) (.im (.tuple ((os.filter fun x => decide (x ∉ xs)).map .int))) = some (.im (tI (xs ++ os.filter fun x => decide (x ∉ xs)))) := by
      unfold tI gAdd
      simp only [List.length_map, List.map_append]
      rw [if_pos lz]
    generalize os.filter (fun x => decide (x ∉ xs)) = fs at *
    unfold tI at *
    rw [List.map_append] at gd
    simp [mVar, tTuple, tsCons, tsNil, tName, setSl, Sl.own, ga, wipeE, lcA, gTuple, items, gd, outsOf]
  | false =>
    generalize xs.filter (fun x => decide (x ∉ os)) = fs at *
    unfold tI at *
    simp [mVar, tTuple, tsCons, tsNil, tName, setSl, Sl.own, ga, wipeE, lcR, gTuple, items, outsOf]
def lastI (xs : List Int) (os : List Act) : List Int := os.foldl afterI xs
theorem Right.last {n : Int} : ∀ {os : List Act} {xs : List Int}, Right n xs → (∀ o ∈ os, GoodAct n o) → Right n (lastI xs os)
  | [], _, h, _ => h
  | o :: os, _, h, g => Right.last (os := os) (h.after (g o List.mem_cons_self)) fun p hp => g p (List.mem_cons_of_mem _ hp)
theorem last_of_eq {n : Int} {xs : List Int} {os : List Act} (h : Right n xs) (g : ∀ o ∈ os, GoodAct n o) : f_last_of [.im (tI xs), .im (.tuple (os.map actD))] = .ok (.im (tI (lastI xs os))) [] := by
  let E : Nat → En → Prop := fun i e => ∃ s, e = [.im (tI (lastI xs (os.take i))), .im (.tuple (os.map actD)), s] ∧ s.own = false
  have hE : ∀ i e, E i e ↔ ∃ s, e = [.im (tI (lastI xs (os.take i))), .im (.tuple (os.map actD)), s] ∧ s.own = false := fun _ _ => .rfl
  obtain ⟨e', q1, q2⟩ := loop_ix (mt := tName 2 2) (body := sSet 2 0 (mCall 2 [false, false] TL.f_after (mCons (mVar 0) (mCons (mVar 2) mNil)))) (E := E) (os.map actD) (e := [.im (tI xs), .im (.tuple (os.map actD)), .no]) ((hE _ _).mpr ⟨.no, rfl, rfl⟩) fun i d e hd he => by
    obtain ⟨s, rfl, hs⟩ := (hE _ _).mp he
    rw [List.getElem?_map] at hd
    obtain ⟨o, ho, rfl⟩ := Option.map_eq_some_iff.mp hd
    have hm : o ∈ os := List.mem_of_getElem? ho
    have hR : Right n (lastI xs (os.take i)) := h.last fun p hp => g p (List.mem_of_mem_take hp)
    have c := fun np env => call2 (np := np) (env := env) (after_eq hR (g o hm))
    have tk : lastI xs (os.take (i + 1)) = afterI (lastI xs (os.take i)) o := by unfold lastI; rw [List.take_add_one, ho, List.foldl_append]; rfl
    refine ⟨[.im (tI (lastI xs (os.take i))), .im (.tuple (os.map actD)), .im (actD o)], _, by simp [tName, setSl, hs], .inl ?_, (hE _ _).mpr ⟨.im (actD o), by rw [tk], rfl⟩⟩
    simp [mVar, c, sStore, setSl, Sl.own]
  obtain ⟨s, rfl, hs⟩ := (hE _ _).mp q2
  rw [List.length_map, List.take_length] at q1
  unfold f_last_of fnOf m_last_of
  simp [mVar, q1, outsOf]
/-! law's own -/
def addF (fs : List Int) (x : Int) : List Int := if x ∈ fs then fs else fs ++ [x]
theorem foldl_add : ∀ {items xs : List Int}, items.Nodup → items.foldl addF xs = xs ++ items.filter fun x => decide (x ∉ xs)
  | [], xs, _ => by simp
  | a :: r, xs, h => by
    obtain ⟨h1, h2⟩ := List.nodup_cons.mp h
    rw [List.foldl_cons]
    by_cases ha : a ∈ xs
    · have e : addF xs a = xs := if_pos ha
      rw [e, foldl_add h2, List.filter_cons_of_neg (by simp [ha])]
    · have e : addF xs a = xs ++ [a] := if_neg ha
      rw [e, foldl_add h2, List.filter_cons_of_pos (by simp [ha]), List.append_assoc]
      congr 1
      rw [List.singleton_append]
      congr 1
      refine List.filter_congr fun x hx => ?_
      have hne : x ≠ a := fun e => h1 (e ▸ hx)
      simp [hne]
theorem foldl_rem : ∀ {items xs : List Int}, xs.Nodup → items.foldl (fun fs x => fs.erase x) xs = xs.filter fun x => decide (x ∉ items)
  | [], xs, _ => by
    rw [List.foldl_nil]
    exact (List.filter_eq_self.mpr fun x _ => by simp).symm
  | a :: r, xs, h => by
    rw [List.foldl_cons, foldl_rem (h.erase a), h.erase_eq_filter, List.filter_filter]
    refine List.filter_congr fun x _ => ?_
    by_cases e : x = a
    · simp [e]
    · simp [e]
def laB : MS := (sSeq (sIf (mAnd (mB (mOp2 gEq (mOp2 gIx (mVar 1) (mK (.int 0))) (mK (.str "add")))) (mB (mOp2 gNotIn (mVar 3) (mVar 2))))
    (sDrop (mAppend 2 2 (mVar 3)))
    sNext)
    (sIf (mAnd (mB (mOp2 gEq (mOp2 gIx (mVar 1) (mK (.int 0))) (mK (.str "remove")))) (mB (mOp2 gIn (mVar 3) (mVar 2))))
    (sDrop (mRemove 2 (mVar 3)))
    sNext))
def lawF (k : Bool) (fs : List Int) (x : Int) : List Int := if k then addF fs x else fs.erase x
theorem gNotIn_ol (i : Int) (xs : List Int) : gNotIn (.im (.int i)) (.ol (xs.map .int)) = some (.im (.bool (!decide (i ∈ xs)))) := by
  unfold gNotIn
  simp only [content, items, nice_int, lay_ints, and_self, if_true, any_int]
theorem gIn_ol (i : Int) (xs : List Int) : gIn (.im (.int i)) (.ol (xs.map .int)) = some (.im (.bool (decide (i ∈ xs)))) := by
  unfold gIn
  simp only [content, items, nice_int, lay_ints, and_self, if_true, any_int]
theorem laB_eq (t : D) (o : Act) (fs : List Int) (x : Int) (hl : fs.length < 1000) : laB [.im t, .im (actD o), .ol (fs.map .int), .im (.int x)] = .nx [.im t, .im (actD o), .ol ((lawF o.add fs x).map .int), .im (.int x)] := by
  have lz : fs.length < sizeLine := by rw [sizeLine_eq]; omega
  have ga := gEq_add o.add
  have gr := gEq_rem o.add
  have g1 := gNotIn_ol x fs
  have g2 := gIn_ol x fs
  have g3 := intsOf_of fs
  unfold laB lawF addF actD
  cases hk : o.add with
  | true =>
    rw [hk] at ga gr
    by_cases hx : x ∈ fs
    · simp [mVar, ga, gr, opv2, view, g1, hx]
    · simp [mVar, ga, gr, opv2, view, g1, hx, mAppend, lz]
  | false =>
    rw [hk] at ga gr
    by_cases hx : x ∈ fs
    · simp [mVar, ga, gr, opv2, view, g2, hx, mRemove, g3]
    · simp [mVar, ga, gr, opv2, view, g2, hx, List.erase_of_not_mem hx]
theorem lawF_len (k : Bool) (fs : List Int) (x : Int) : (lawF k fs x).length ≤ fs.length + 1 := by
  unfold lawF addF
  split
  · split <;> simp
  · have := List.length_erase_le (a := x) (l := fs)
    omega
theorem law_after_eq {n : Int} {xs : List Int} {o : Act} (h : Right n xs) (g : GoodAct n o) : f__law_after [.im (tI xs), .im (actD o)] = .ok (.im (tI (afterI xs o))) [] := by
  have l1 := h.len
  have l2 := g.len h.hi
  let E : Nat → En → Prop := fun i e => ∃ s, e = [.im (tI xs), .im (actD o), .ol (((o.items.take i).foldl (lawF o.add) xs).map .int), s] ∧ s.own = false ∧ ((o.items.take i).foldl (lawF o.add) xs).length ≤ xs.length + i
  have hE : ∀ i e, E i e ↔ ∃ s, e = [.im (tI xs), .im (actD o), .ol (((o.items.take i).foldl (lawF o.add) xs).map .int), s] ∧ s.own = false ∧ ((o.items.take i).foldl (lawF o.add) xs).length ≤ xs.length + i := fun _ _ => .rfl
  obtain ⟨e', q1, q2⟩ := loop_ix (mt := tName 2 3) (body := laB) (E := E) (o.items.map .int) (e := [.im (tI xs), .im (actD o), .ol (xs.map .int), .no]) ((hE _ _).mpr ⟨.no, rfl, rfl, Nat.le_refl _⟩) fun i d e hd he => by
    obtain ⟨s, rfl, hs, hl⟩ := (hE _ _).mp he
    rw [List.getElem?_map] at hd
    obtain ⟨x, hx, rfl⟩ := Option.map_eq_some_iff.mp hd
    have hi : i < o.items.length := (List.getElem?_eq_some_iff.mp hx).1
    have tk : (o.items.take (i + 1)).foldl (lawF o.add) xs = lawF o.add ((o.items.take i).foldl (lawF o.add) xs) x := by rw [List.take_add_one, hx, List.foldl_append]; rfl
    refine ⟨[.im (tI xs), .im (actD o), .ol (((o.items.take i).foldl (lawF o.add) xs).map .int), .im (.int x)], _, by simp [tName, setSl, hs], .inl (laB_eq _ o _ x (by omega)), (hE _ _).mpr ⟨.im (.int x), by rw [tk], rfl, ?_⟩⟩
    rw [tk]
    have := lawF_len o.add ((o.items.take i).foldl (lawF o.add) xs) x
    omega
  obtain ⟨s, rfl, hs, hl⟩ := (hE _ _).mp q2
  have ef : o.items.foldl (lawF o.add) xs = afterI xs o := by
    unfold afterI
    cases hk : o.add with
    | true => exact foldl_add g.nd
    | false => exact foldl_rem h.nd
  rw [List.length_map, List.take_length, ef] at q1
  unfold laB at q1
  unfold f__law_after fnOf m__law_after
  generalize afterI xs o = ys at *
  unfold actD tI at *
  simp [mVar, gList, items, sStore, setSl, Sl.own, q1, view, gTuple, outsOf]
theorem law_last_eq {n : Int} {xs : List Int} {os : List Act} (h : Right n xs) (g : ∀ o ∈ os, GoodAct n o) : f__law_last [.im (tI xs), .im (.tuple (os.map actD))] = .ok (.im (tI (lastI xs os))) [] := by
  let E : Nat → En → Prop := fun i e => ∃ s, e = [.im (tI (lastI xs (os.take i))), .im (.tuple (os.map actD)), s] ∧ s.own = false
  have hE : ∀ i e, E i e ↔ ∃ s, e = [.im (tI (lastI xs (os.take i))), .im (.tuple (os.map actD)), s] ∧ s.own = false := fun _ _ => .rfl
  obtain ⟨e', q1, q2⟩ := loop_ix (mt := tName 2 2) (body := sSet 2 0 (mCall 2 [false, false] TL.f__law_after (mCons (mVar 0) (mCons (mVar 2) mNil)))) (E := E) (os.map actD) (e := [.im (tI xs), .im (.tuple (os.map actD)), .no]) ((hE _ _).mpr ⟨.no, rfl, rfl⟩) fun i d e hd he => by
    obtain ⟨s, rfl, hs⟩ := (hE _ _).mp he
    rw [List.getElem?_map] at hd
    obtain ⟨o, ho, rfl⟩ := Option.map_eq_some_iff.mp hd
    have hm : o ∈ os := List.mem_of_getElem? ho
    have hR : Right n (lastI xs (os.take i)) := h.last fun p hp => g p (List.mem_of_mem_take hp)
    have c := fun np env => call2 (np := np) (env := env) (law_after_eq hR (g o hm))
    have tk : lastI xs (os.take (i + 1)) = afterI (lastI xs (os.take i)) o := by unfold lastI; rw [List.take_add_one, ho, List.foldl_append]; rfl
    refine ⟨[.im (tI (lastI xs (os.take i))), .im (.tuple (os.map actD)), .im (actD o)], _, by simp [tName, setSl, hs], .inl ?_, (hE _ _).mpr ⟨.im (actD o), by rw [tk], rfl⟩⟩
    simp [mVar, c, sStore, setSl, Sl.own]
  obtain ⟨s, rfl, hs⟩ := (hE _ _).mp q2
  rw [List.length_map, List.take_length] at q1
  unfold f__law_last fnOf m__law_last
  simp [mVar, q1, outsOf]
end TL

set_option maxRecDepth 100000
namespace TL
open PySem PySem.Spec L2 PL

/-! ### lists that are told apart by their pairs -/
def two (x y : Int) (z : Int) : Bool := decide (z = x) || decide (z = y)
theorem after_two (P : Int → Bool) (xs : List Int) (o : Act) : (afterI xs o).filter P = (afterI (xs.filter P) o).filter P := by
  unfold afterI
  cases o.add with
  | true =>
    simp only [if_true, List.filter_append, List.filter_filter, Bool.and_self]
    congr 1
    refine List.filter_congr fun x _ => ?_
    cases hp : P x <;> simp [hp]
  | false =>
    simp only [Bool.false_eq_true, if_false, List.filter_filter]
    refine List.filter_congr fun x _ => ?_
    cases P x <;> simp
theorem last_two (P : Int → Bool) : ∀ (os : List Act) (xs ys : List Int), xs.filter P = ys.filter P → (lastI xs os).filter P = (lastI ys os).filter P
  | [], _, _, h => h
  | o :: os, xs, ys, h => by
    have e : (afterI xs o).filter P = (afterI ys o).filter P := by rw [after_two P xs, after_two P ys, h]
    exact last_two P os _ _ e
theorem pairs_eq : ∀ {A B : List Int}, A.Nodup → B.Nodup → (∀ x y, A.filter (two x y) = B.filter (two x y)) → A = B
  | [], [], _, _, _ => rfl
  | [], b :: B, _, _, h => by
    have := h b b
    rw [List.filter_nil, List.filter_cons_of_pos (by simp [two])] at this
    cases this
  | a :: A, [], _, _, h => by
    have := h a a
    rw [List.filter_nil, List.filter_cons_of_pos (by simp [two])] at this
    cases this
  | a :: A, b :: B, ha, hb, h => by
    have e : a = b := by
      have := h a b
      rw [List.filter_cons_of_pos (by simp [two]), List.filter_cons_of_pos (by simp [two])] at this
      exact (List.cons.inj this).1
    subst e
    rw [pairs_eq (List.nodup_cons.mp ha).2 (List.nodup_cons.mp hb).2 fun x y => ?_]
    have := h x y
    cases hp : two x y a with
    | true =>
      rw [List.filter_cons_of_pos hp, List.filter_cons_of_pos hp] at this
      exact (List.cons.inj this).2
    | false =>
      rw [List.filter_cons_of_neg (by rw [hp]; exact Bool.false_ne_true), List.filter_cons_of_neg (by rw [hp]; exact Bool.false_ne_true)] at this
      exact this
/-- the lists of at most two items -/
def shortI (n : Int) : List (List Int) := [[]] ++ (ups n).map (fun x => [x]) ++ (ups n).flatMap fun x => ((ups n).filter fun y => !decide (x = y)).map fun y => [x, y]
theorem short_right {n : Int} (h0 : 1 ≤ n) (h1 : n ≤ 16) {xs : List Int} (h : xs ∈ shortI n) : Right n xs := by
  unfold shortI at h
  rw [List.mem_append, List.mem_append] at h
  rcases h with (h | h) | h
  · rw [List.mem_singleton.mp h]
    exact ⟨h0, h1, (fun x hx => by cases hx), .nil⟩
  · obtain ⟨x, hx, rfl⟩ := List.mem_map.mp h
    exact ⟨h0, h1, fun y hy => by rw [List.mem_singleton.mp hy]; exact mem_ups.mp hx, by simp⟩
  · obtain ⟨x, hx, h⟩ := List.mem_flatMap.mp h
    obtain ⟨y, hy, rfl⟩ := List.mem_map.mp h
    obtain ⟨hy, hne⟩ := List.mem_filter.mp hy
    refine ⟨h0, h1, fun z hz => ?_, ?_⟩
    · rcases List.mem_cons.mp hz with e | e
      · rw [e]; exact mem_ups.mp hx
      · rw [List.mem_singleton.mp e]; exact mem_ups.mp hy
    · simp at hne
      simp [hne]
theorem two_short {n : Int} {xs : List Int} (h : Right n xs) (x y : Int) : xs.filter (two x y) ∈ shortI n := by
  have hn := h.nd.filter (two x y)
  have hm : ∀ z ∈ xs.filter (two x y), (z = x ∨ z = y) ∧ z ∈ ups n := fun z hz => by
    obtain ⟨h1, h2⟩ := List.mem_filter.mp hz
    refine ⟨?_, mem_ups.mpr (h.mem z h1)⟩
    unfold two at h2
    simpa using h2
  generalize xs.filter (two x y) = l at hn hm
  unfold shortI
  rw [List.mem_append, List.mem_append]
  match l, hn, hm with
  | [], _, _ => exact .inl (.inl (by simp))
  | [a], _, hm => exact .inl (.inr (List.mem_map.mpr ⟨a, (hm a (by simp)).2, rfl⟩))
  | [a, b], hn, hm =>
    refine .inr (List.mem_flatMap.mpr ⟨a, (hm a (by simp)).2, List.mem_map.mpr ⟨b, List.mem_filter.mpr ⟨(hm b (by simp)).2, ?_⟩, rfl⟩⟩)
    have hne : ¬ a = b := fun e => (List.nodup_cons.mp hn).1 (by rw [e]; simp)
    simp [hne]
  | a :: b :: c :: r, hn, hm =>
    exfalso
    have h1 := (hm a (by simp)).1
    have h2 := (hm b (by simp)).1
    have h3 := (hm c (by simp)).1
    have n1 : ¬ a = b := fun e => (List.nodup_cons.mp hn).1 (by rw [e]; simp)
    have n2 : ¬ a = c := fun e => (List.nodup_cons.mp hn).1 (by rw [e]; simp)
    have n3 : ¬ b = c := fun e => (List.nodup_cons.mp (List.nodup_cons.mp hn).2).1 (by rw [e]; simp)
    rcases h1 with e1 | e1 <;> rcases h2 with e2 | e2 <;> rcases h3 with e3 | e3 <;> omega
/-- two scripts that agree on the short lists agree on all -/
theorem agree {n : Int} {s t : List Act} (hs : ∀ o ∈ s, GoodAct n o) (ht : ∀ o ∈ t, GoodAct n o) (h : ∀ xs ∈ shortI n, lastI xs s = lastI xs t) {xs : List Int} (hx : Right n xs) : lastI xs s = lastI xs t := by
  refine pairs_eq (hx.last hs).nd (hx.last ht).nd fun x y => ?_
  have e := h _ (two_short hx x y)
  rw [last_two (two x y) s xs (xs.filter (two x y)) (by rw [List.filter_filter]; simp), last_two (two x y) t xs (xs.filter (two x y)) (by rw [List.filter_filter]; simp), e]
/-- the first short list from which two scripts differ -/
def firstI (n : Int) (s t : List Act) : Option (List Int) := (shortI n).find? fun xs => !decide (lastI xs s = lastI xs t)
def optT : Option (List Int) → D
  | some xs => tI xs
  | none => .none
theorem lc2_map {α : Type} {np : Nat} {vs vs1 : List Nat} {mt mt1 : MT} {mc1 : M Bool} {mi1 : M (List D)} {me : M Rf} {E : En} (enc : α → D) (L1 : List α) (c : α → α → Bool) (g : α → α → D) : ∀ {L : List α} {n : Nat}, n + L.length * L1.length ≤ sizeLine →
    (∀ x ∈ L, ∃ e1 e2, mt (enc x) E = some e1 ∧ mi1 e1 = .ok (L1.map enc) e1 ∧ lcLoop np vs1 mt1 mc1 me (L1.map enc) (wipeE vs1 e1) = .ok ((L1.filter (c x)).map (g x)) e2 ∧ wipeE vs e2 = E) →
    lcLoop2 np vs vs1 mt mYes mi1 mt1 mc1 me (L.map enc) n E = .ok (L.flatMap fun x => (L1.filter (c x)).map (g x)) E
  | [], _, _, _ => rfl
  | x :: r, n, hn, h => by
    obtain ⟨e1, e2, h1, h2, h3, h4⟩ := h x List.mem_cons_self
    have hz : n + L1.length + r.length * L1.length ≤ sizeLine := by
      rw [List.length_cons, Nat.add_mul] at hn
      omega
    have ih := lc2_map enc L1 c g (L := r) (n := n + L1.length) hz fun y hy => h y (List.mem_cons_of_mem _ hy)
    rw [List.map_cons]
    unfold lcLoop2
    rw [h1]
    dsimp only
    rw [ap_yes, Res.bindN_ok]
    dsimp only
    rw [h2, Res.bindN_ok, List.length_map, if_pos (by have := Nat.le_add_right (n + L1.length) (r.length * L1.length); omega), h3, Res.bindN_ok, h4, ih, Res.bindN_ok, List.flatMap_cons]
theorem short_lists_eq {n : Int} (h0 : 1 ≤ n) (h1 : n ≤ 16) : f_short_lists [.im (.int n)] = .ok (.ol ((shortI n).map tI)) [] := by
  have e1 : (-1000000 ≤ (1 : Int) ∧ (1 : Int) ≤ 1000000) ∧ -1000000 ≤ n + 1 ∧ n + 1 ≤ 1000000 := by omega
  have e3 : rangeD 1 n.toNat = (ups n).map .int := by rw [← rangeD_ups, show n + 1 - 1 = n by omega]
  have lu : (ups n).length ≤ 16 := by rw [ups_length]; omega
  let I : D := .list ((ups n).map .int)
  have lc1 := lc_map (np := 1) (vs := [3]) (mt := tName 1 3) (mc := mYes) (me := mTup 1 (mCons (mVar 3) mNil)) (E := [.im (.int n), .im I, .no, .no, .no, .no]) PyData.int (fun _ => true) (fun x => tI [x]) (L := ups n) fun z _ => by
    refine ⟨[.im (.int n), .im I, .no, .im (.int z), .no, .no], [.im (.int n), .im I, .no, .im (.int z), .no, .no], rfl, rfl, fun _ => ⟨?_, rfl⟩, rfl⟩
    simp [mVar, tI]
  let F : D := .int 0
  have lc2 := fun (S2 : Sl) => lc2_map (np := 1) (vs := [4, 5]) (vs1 := [5]) (mt := tName 1 4) (mt1 := tName 1 5) (mc1 := mB (mOp2 gNe (mVar 4) (mVar 5))) (mi1 := mSeq 1 (mVar 1)) (me := mTup 1 (mCons (mVar 4) (mCons (mVar 5) mNil))) (E := [.im (.int n), .im I, S2, .no, .no, .no]) PyData.int (ups n) (fun x y => !decide (x = y)) (fun x y => tI [x, y]) (L := ups n) (n := 0)
    (by rw [sizeLine_eq]; have := Nat.mul_le_mul lu lu; omega) fun x _ => by
      have inner := lc_map (np := 1) (vs := [5]) (mt := tName 1 5) (mc := mB (mOp2 gNe (mVar 4) (mVar 5))) (me := mTup 1 (mCons (mVar 4) (mCons (mVar 5) mNil))) (E := [.im (.int n), .im I, S2, .no, .im (.int x), .no]) PyData.int (fun y => !decide (x = y)) (fun y => tI [x, y]) (L := ups n) fun y _ => by
        refine ⟨[.im (.int n), .im I, S2, .no, .im (.int x), .im (.int y)], [.im (.int n), .im I, S2, .no, .im (.int x), .im (.int y)], rfl, ?_, fun _ => ⟨?_, rfl⟩, rfl⟩
        · simp [mVar]
        · simp [mVar, tI]
      exact ⟨[.im (.int n), .im I, S2, .no, .im (.int x), .no], _, rfl, by simp [mVar, I], inner, rfl⟩
  have m1 : (ups n).map (fun x => tI [x]) = ((ups n).map fun x => [x]).map tI := by rw [List.map_map]; rfl
  have m2 : ((ups n).flatMap fun x => ((ups n).filter fun y => !decide (x = y)).map fun y => tI [x, y]) = ((ups n).flatMap fun x => ((ups n).filter fun y => !decide (x = y)).map fun y => [x, y]).map tI := by
    rw [List.map_flatMap]
    congr 1
    funext x
    rw [List.map_map]
    rfl
  have ft : (ups n).filter (fun _ => true) = ups n := List.filter_eq_self.mpr fun _ _ => rfl
  rw [ft, m1] at lc1
  rw [m2] at lc2
  have z1 : 1 + (ups n).length ≤ sizeLine := by rw [sizeLine_eq]; omega
  have z2 : 1 + (ups n).length + ((ups n).flatMap fun x => ((ups n).filter fun y => !decide (x = y)).map fun y => [x, y]).length ≤ sizeLine := by
    have := List.length_flatMap (l := ups n) (f := fun x => ((ups n).filter fun y => !decide (x = y)).map fun y => [x, y])
    have b : ∀ (L : List Int), (L.map fun x => (((ups n).filter fun y => !decide (x = y)).map fun y => [x, y]).length).sum ≤ L.length * 16 := by
      intro L
      induction L with
      | nil => simp
      | cons x r ih =>
        have := List.length_filter_le (fun y => !decide (x = y)) (ups n)
        rw [List.map_cons, List.sum_cons, List.length_cons, List.length_map]
        omega
    have := b (ups n)
    rw [sizeLine_eq]
    omega
  have ga1 : gAdd (.ol [.tuple []]) (.ol (((ups n).map fun x => [x]).map tI)) = some (.tmp (.ol (([[]] ++ (ups n).map fun x => [x]).map tI))) := by
    rw [gAdd_ol, List.length_map, List.length_map]
    exact if_pos z1
  have ga2 : gAdd (.ol (([[]] ++ (ups n).map fun x => [x]).map tI)) (.ol (((ups n).flatMap fun x => ((ups n).filter fun y => !decide (x = y)).map fun y => [x, y]).map tI)) = some (.tmp (.ol ((shortI n).map tI))) := by
    rw [gAdd_ol, ← List.map_append]
    refine if_pos ?_
    rw [List.length_map, List.length_map, List.length_append, List.length_map]
    exact z2
  unfold f_short_lists fnOf m_short_lists
  generalize hS : ([[]] ++ (ups n).map fun x => [x]).map tI = S2 at *
  generalize hT : ((ups n).flatMap fun x => ((ups n).filter fun y => !decide (x = y)).map fun y => [x, y]).map tI = S3 at *
  generalize ((ups n).map fun x => [x]).map tI = S1 at *
  have lc2' := lc2 (.ol S2)
  have hI : I = .list ((ups n).map .int) := rfl
  rw [hI] at lc1 lc2'
  simp [mVar, mRgL, rfL, e1, e3, sStore, setSl, Sl.own, toI, wipeE, lc1, opv2, view, ga1, mLc2, lc2', ga2, outsOf]
end TL

set_option maxRecDepth 100000
namespace TL
open PySem PySem.Spec L2 PL
theorem loop_find {α : Type} {mt : MT} {body : MS} (enc : α → D) (c : α → Bool) {I : En → Prop} : ∀ {L : List α} {e : En}, I e → (∀ x ∈ L, ∀ e, I e → ∃ e1 e2, mt (enc x) e = some e1 ∧ I e2 ∧ body e1 = if c x = true then .rt (.im (enc x)) e2 else .nx e2) →
    ∃ e', I e' ∧ loopS mt body (L.map enc) e = (L.find? c).elim (.nx e') fun x => .rt (.im (enc x)) e'
  | [], e, hI, _ => ⟨e, hI, rfl⟩
  | x :: L, e, hI, h => by
    obtain ⟨e1, e2, h1, h2, h3⟩ := h x List.mem_cons_self e hI
    obtain ⟨e', q1, q2⟩ := loop_find enc c (L := L) h2 fun y hy => h y (List.mem_cons_of_mem x hy)
    rw [List.map_cons]
    unfold loopS
    rw [h1]
    dsimp only
    rw [h3]
    cases hc : c x with
    | true => exact ⟨e2, h2, by rw [List.find?_cons_of_pos hc]; rfl⟩
    | false =>
      refine ⟨e', q1, ?_⟩
      rw [List.find?_cons_of_neg (by rw [hc]; exact Bool.false_ne_true)]
      exact q2
theorem first_difference_eq {n : Int} {s t : List Act} (h0 : 1 ≤ n) (h1 : n ≤ 16) (hs : ∀ o ∈ s, GoodAct n o) (ht : ∀ o ∈ t, GoodAct n o) : f_first_difference [.im (.int n), .im (.tuple (s.map actD)), .im (.tuple (t.map actD))] = .ok (.im (optT (firstI n s t))) [] := by
  obtain ⟨e', ⟨x, rfl, hx⟩, q⟩ := loop_find (mt := tName 3 3) (body := sIf (mB (mOp2 gNe (mCall 3 [false, false] TL.f_last_of (mCons (mVar 3) (mCons (mVar 1) mNil))) (mCall 3 [false, false] TL.f_last_of (mCons (mVar 3) (mCons (mVar 2) mNil)))))
    (sRet 3 (mVar 3))
    sNext) tI (fun xs => !decide (lastI xs s = lastI xs t)) (I := fun e => ∃ x, e = [.im (.int n), .im (.tuple (s.map actD)), .im (.tuple (t.map actD)), x] ∧ x.own = false) (L := shortI n) (e := [.im (.int n), .im (.tuple (s.map actD)), .im (.tuple (t.map actD)), .no]) ⟨.no, rfl, rfl⟩ fun xs hxs e he => by
      obtain ⟨x, rfl, hx⟩ := he
      have R := short_right h0 h1 hxs
      have c1 := fun np env => call2 (np := np) (env := env) (last_of_eq R hs)
      have c2 := fun np env => call2 (np := np) (env := env) (last_of_eq R ht)
      refine ⟨[.im (.int n), .im (.tuple (s.map actD)), .im (.tuple (t.map actD)), .im (tI xs)], [.im (.int n), .im (.tuple (s.map actD)), .im (.tuple (t.map actD)), .im (tI xs)], by simp [tName, setSl, hx], ⟨_, rfl, rfl⟩, ?_⟩
      by_cases hd : lastI xs s = lastI xs t
      · simp [mVar, c1, c2, hd]
      · simp [mVar, c1, c2, hd]
  have c0 := fun np env => call1T (np := np) (env := env) (short_lists_eq h0 h1)
  unfold f_first_difference fnOf m_first_difference firstI
  cases hf : (shortI n).find? fun xs => !decide (lastI xs s = lastI xs t) with
  | none =>
    rw [hf] at q
    simp [mVar, c0, q, outsOf, optT]
  | some xs =>
    rw [hf] at q
    simp [mVar, c0, q, outsOf, optT]
theorem require_script_eq {n m : Int} {os : List Act} (hn : n ≤ 16) (h : ∀ o ∈ os, GoodAct n o) (hl : (os.length : Int) ≤ m) : f_require_script [.im (.int n), .im (.tuple (os.map actD)), .im (.int m)] = .ok (.im .none) [] := by
  have c := are_operations_eq (n := n) (m := m) (ds := os.map actD) fun d hd => by
    obtain ⟨o, ho, rfl⟩ := List.mem_map.mp hd
    exact good_cand (h o ho) hn
  have e : (os.map actD).all (isOp n) = true := List.all_eq_true.mpr fun d hd => by
    obtain ⟨o, ho, rfl⟩ := List.mem_map.mp hd
    exact good_isOp (h o ho)
  rw [e, List.length_map, decide_eq_true hl] at c
  unfold f_require_script fnOf m_require_script
  simp [mVar, call3 c, truS, outsOf]
theorem difference_eq {n : Int} {s t : List Act} (h0 : 1 ≤ n) (h1 : n ≤ 16) (hs : ∀ o ∈ s, GoodAct n o) (ht : ∀ o ∈ t, GoodAct n o) (ls : s.length ≤ 40) (lt : t.length ≤ 40) : f_difference [.im (.int n), .im (.tuple (s.map actD)), .im (.tuple (t.map actD))] = .ok (.im (optT (firstI n s t))) [] := by
  have c1 := fun np env => call1 (np := np) (env := env) (require_size_eq h0 h1)
  have c2 := fun np env => call3 (np := np) (env := env) (require_script_eq (m := 40) h1 hs (by omega))
  have c3 := fun np env => call3 (np := np) (env := env) (require_script_eq (m := 40) h1 ht (by omega))
  have c4 := fun np env => call3 (np := np) (env := env) (first_difference_eq h0 h1 hs ht)
  unfold f_difference fnOf m_difference
  simp [mVar, c1, c2, c3, c4, outsOf]
def needB (n : Int) (s : List Act) (i : Nat) : Bool := (firstI n (s.eraseIdx i) s).isNone
def needI (n : Int) (s : List Act) : List Int := ((List.range s.length).filter (needB n s)).map fun (i : Nat) => (i : Int)
theorem isNon_opt (o : Option (List Int)) : isNon (optT o) = o.isNone := by cases o <;> rfl
theorem erase_act (s : List Act) (i : Nat) : (s.map actD).take i ++ (s.map actD).drop (i + 1) = (s.eraseIdx i).map actD := by
  rw [List.eraseIdx_eq_take_drop_succ, List.map_append, List.map_take, List.map_drop]
theorem good_erase {n : Int} {s : List Act} (h : ∀ o ∈ s, GoodAct n o) (i : Nat) : ∀ o ∈ s.eraseIdx i, GoodAct n o := fun o ho => h o (List.mem_of_mem_eraseIdx ho)
def needM : MS := (sIf (mB (mOp2 gIs (mCall 2 [false, false, false] TL.f_first_difference (mCons (mVar 0) (mCons (mOp2 gAdd (mSlice (mVar 1) mNoPart (mPart (mVar 3))) (mSlice (mVar 1) (mPart (mOp2 gAdd (mVar 3) (mK (.int 1)))) mNoPart)) (mCons (mVar 1) mNil)))) (mK .none)))
    (sDrop (mAppend 2 2 (mVar 3)))
    sNext)
theorem needless_eq {n : Int} {s : List Act} (h0 : 1 ≤ n) (h1 : n ≤ 16) (hs : ∀ o ∈ s, GoodAct n o) (ls : s.length ≤ 40) : f_needless [.im (.int n), .im (.tuple (s.map actD))] = .ok (.ol ((needI n s).map .int)) [] := by
  let fi : Nat → List Int := fun i => ((List.range i).filter (needB n s)).map fun (i : Nat) => (i : Int)
  have hfi : ∀ i, fi i = ((List.range i).filter (needB n s)).map fun (i : Nat) => (i : Int) := fun _ => rfl
  let E : Nat → En → Prop := fun i e => ∃ x, e = [.im (.int n), .im (.tuple (s.map actD)), .ol ((fi i).map .int), x] ∧ x.own = false
  have hE : ∀ i e, E i e ↔ ∃ x, e = [.im (.int n), .im (.tuple (s.map actD)), .ol ((fi i).map .int), x] ∧ x.own = false := fun _ _ => .rfl
  obtain ⟨e', q1, q2⟩ := loop_ix (mt := tName 2 3) (body := needM) (E := E) (rangeD 0 s.length) (e := [.im (.int n), .im (.tuple (s.map actD)), .ol [], .no]) ((hE _ _).mpr ⟨.no, rfl, rfl⟩) fun i d e hd he => by
    obtain ⟨x, rfl, hx⟩ := (hE _ _).mp he
    obtain ⟨hi, rfl⟩ := rangeD_get hd
    rw [Int.zero_add]
    have hz : ((s.map actD).length : Int) = s.length := by rw [List.length_map]
    have e1 := cut_to (s.map actD) i (by omega) (by omega)
    have e2 := cut_from (s.map actD) (i + 1) (by omega) (by omega)
    rw [Int.toNat_natCast] at e1
    rw [show ((i : Int) + 1).toNat = i + 1 by omega] at e2
    have lz : ((s.map actD).take i).length + ((s.map actD).drop (i + 1)).length ≤ sizeLine := by rw [List.length_take, List.length_drop, List.length_map, sizeLine_eq]; omega
    have ga : gAdd (.im (.tuple ((s.map actD).take i))) (.im (.tuple ((s.map actD).drop (i + 1)))) = some (.im (.tuple ((s.eraseIdx i).map actD))) := by
      rw [← erase_act]
      unfold gAdd
      dsimp only
      rw [if_pos lz]
    have c := fun np env => call3 (np := np) (env := env) (first_difference_eq h0 h1 (good_erase hs i) hs)
    have gi : gIs (.im (optT (firstI n (s.eraseIdx i) s))) (.im .none) = some (.im (.bool (needB n s i))) := by
      unfold gIs needB
      dsimp only
      rw [isNon_opt]
    have lf : (fi i).length < sizeLine := by
      have := List.length_filter_le (needB n s) (List.range i)
      rw [List.length_range] at this
      rw [hfi, List.length_map, sizeLine_eq]
      omega
    refine ⟨[.im (.int n), .im (.tuple (s.map actD)), .ol ((fi i).map .int), .im (.int i)], [.im (.int n), .im (.tuple (s.map actD)), .ol ((fi (i + 1)).map .int), .im (.int i)], by simp [tName, setSl, hx], .inl ?_, (hE _ _).mpr ⟨.im (.int i), rfl, rfl⟩⟩
    have tk : fi (i + 1) = if needB n s i = true then fi i ++ [(i : Int)] else fi i := by
      rw [hfi, hfi, List.range_succ, List.filter_append, List.map_append]
      cases hb : needB n s i <;> simp [hb]
    rw [tk]
    unfold needM
    generalize (s.map actD).take i = A at *
    generalize (s.map actD).drop (i + 1) = C at *
    generalize optT (firstI n (s.eraseIdx i) s) = R at *
    generalize fi i = f at *
    cases hb : needB n s i with
    | true =>
      rw [hb] at gi
      simp [mVar, mSlice, mPart, mNoPart, view, e1, e2, ga, c, gi, mAppend, lf]
    | false =>
      rw [hb] at gi
      simp [mVar, mSlice, mPart, mNoPart, view, e1, e2, ga, c, gi]
  obtain ⟨x, rfl, hx⟩ := (hE _ _).mp q2
  rw [rangeD_length] at q1
  have hI : fi s.length = needI n s := rfl
  rw [hI] at q1
  have c1 := fun np env => call1 (np := np) (env := env) (require_size_eq h0 h1)
  have c2 := fun np env => call3 (np := np) (env := env) (require_script_eq (m := 40) h1 hs (by omega))
  have er : ((s.length : Nat) : Int) ≤ 1000000 ∧ (-1000000 : Int) ≤ (s.length : Int) := by omega
  unfold needM at q1
  unfold f_needless fnOf m_needless
  simp [mVar, c1, c2, sStore, setSl, Sl.own, mRng1, er, q1, outsOf]
theorem commute_eq {n : Int} {o p : Act} (h0 : 1 ≤ n) (h1 : n ≤ 16) (ho : GoodAct n o) (hp : GoodAct n p) : f_commute [.im (.int n), .im (actD o), .im (actD p)] = .ok (.im (.bool (firstI n [o, p] [p, o]).isNone)) [] := by
  have hs : ∀ x ∈ [o, p], GoodAct n x := fun x hx => by
    rcases List.mem_cons.mp hx with e | e
    · rw [e]; exact ho
    · rw [List.mem_singleton.mp e]; exact hp
  have ht : ∀ x ∈ [p, o], GoodAct n x := fun x hx => by
    rcases List.mem_cons.mp hx with e | e
    · rw [e]; exact hp
    · rw [List.mem_singleton.mp e]; exact ho
  have c1 := fun np env => call1 (np := np) (env := env) (require_size_eq h0 h1)
  have c2 := fun np env => call2 (np := np) (env := env) (is_operation_eq (n := n) (good_cand ho h1))
  have c3 := fun np env => call2 (np := np) (env := env) (is_operation_eq (n := n) (good_cand hp h1))
  rw [good_isOp ho] at c2
  rw [good_isOp hp] at c3
  have c4 := first_difference_eq h0 h1 hs ht
  have c4 : f_first_difference [.im (.int n), .im (.tuple [actD o, actD p]), .im (.tuple [actD p, actD o])] = .ok (.im (optT (firstI n [o, p] [p, o]))) [] := c4
  have c5 := fun np env => call3 (np := np) (env := env) c4
  have gi : gIs (.im (optT (firstI n [o, p] [p, o]))) (.im .none) = some (.im (.bool (firstI n [o, p] [p, o]).isNone)) := by
    unfold gIs
    dsimp only
    rw [isNon_opt]
  generalize optT (firstI n [o, p] [p, o]) = R at *
  unfold f_commute fnOf m_commute
  simp [mVar, c1, loopS, tName, setSl, Sl.own, c2, c3, truS, c5, gi, outsOf]
end TL

set_option maxRecDepth 100000
namespace TL
open PySem PySem.Spec L2 PL

/-! ### all lists -/
def extI (n : Int) (row : List Int) : List (List Int) := ((ups n).filter fun x => decide (x ∉ row)).map fun x => row ++ [x]
def rowsI (n : Int) : Nat → List (List Int)
  | 0 => [[]]
  | k + 1 => (rowsI n k).flatMap (extI n)
def foundI (n : Int) : Nat → List (List Int)
  | 0 => [[]]
  | k + 1 => foundI n k ++ rowsI n (k + 1)
theorem rows_mem {n : Int} (h0 : 1 ≤ n) (h1 : n ≤ 16) : ∀ {k : Nat} {xs : List Int}, xs ∈ rowsI n k ↔ Right n xs ∧ xs.length = k
  | 0, xs => by
    unfold rowsI
    rw [List.mem_singleton]
    constructor
    · rintro rfl; exact ⟨⟨h0, h1, (fun x hx => by cases hx), .nil⟩, rfl⟩
    · rintro ⟨_, h⟩; exact List.length_eq_zero_iff.mp h
  | k + 1, xs => by
    unfold rowsI
    rw [List.mem_flatMap]
    constructor
    · rintro ⟨r, hr, h⟩
      obtain ⟨R, hl⟩ := (rows_mem h0 h1).mp hr
      obtain ⟨x, hx, rfl⟩ := List.mem_map.mp h
      obtain ⟨hx, hn⟩ := List.mem_filter.mp hx
      rw [decide_eq_true_eq] at hn
      refine ⟨⟨h0, h1, fun y hy => ?_, ?_⟩, by rw [List.length_append, hl]; rfl⟩
      · rcases List.mem_append.mp hy with q | q
        · exact R.mem y q
        · rw [List.mem_singleton.mp q]; exact mem_ups.mp hx
      · refine List.nodup_append.mpr ⟨R.nd, by simp, fun a ha b hb e => ?_⟩
        rw [List.mem_singleton.mp hb] at e
        exact hn (e ▸ ha)
    · rintro ⟨R, hl⟩
      cases hq : xs.getLast? with
      | none => rw [List.getLast?_eq_none_iff.mp hq] at hl; cases hl
      | some x =>
        have e := last_split hq
        have nd := R.nd
        rw [← e] at nd
        obtain ⟨n1, _, n3⟩ := List.nodup_append.mp nd
        have mx : ∀ y ∈ xs.dropLast, y ∈ xs := fun y hy => List.dropLast_subset _ hy
        refine ⟨xs.dropLast, (rows_mem h0 h1).mpr ⟨⟨h0, h1, fun y hy => R.mem y (mx y hy), n1⟩, by rw [List.length_dropLast, hl]; rfl⟩, List.mem_map.mpr ⟨x, List.mem_filter.mpr ⟨mem_ups.mpr (R.mem x (List.mem_of_getLast? hq)), ?_⟩, e⟩⟩
        rw [decide_eq_true_eq]
        intro hx
        exact n3 x hx x (by simp) rfl
theorem found_mem {n : Int} : ∀ {k : Nat} {xs : List Int}, xs ∈ foundI n k ↔ ∃ j, j ≤ k ∧ xs ∈ rowsI n j
  | 0, xs => by
    unfold foundI
    constructor
    · intro h; exact ⟨0, Nat.le_refl _, h⟩
    · rintro ⟨j, hj, h⟩
      have : j = 0 := by omega
      subst this
      exact h
  | k + 1, xs => by
    unfold foundI
    rw [List.mem_append, found_mem]
    constructor
    · rintro (⟨j, hj, h⟩ | h)
      · exact ⟨j, by omega, h⟩
      · exact ⟨k + 1, Nat.le_refl _, h⟩
    · rintro ⟨j, hj, h⟩
      by_cases e : j = k + 1
      · subst e; exact .inr h
      · exact .inl ⟨j, by omega, h⟩
theorem all_mem {n : Int} (h0 : 1 ≤ n) (h1 : n ≤ 16) {xs : List Int} : xs ∈ foundI n n.toNat ↔ Right n xs := by
  rw [found_mem]
  constructor
  · rintro ⟨j, _, h⟩; exact ((rows_mem h0 h1).mp h).1
  · intro R
    refine ⟨xs.length, ?_, (rows_mem h0 h1).mpr ⟨R, rfl⟩⟩
    have key : ∀ (k : Nat) (xs : List Int), xs.Nodup → (∀ x ∈ xs, 1 ≤ x ∧ x ≤ (k : Int)) → xs.length ≤ k := by
      intro k
      induction k with
      | zero =>
        intro xs _ hm
        cases xs with
        | nil => exact Nat.le_refl _
        | cons x r => have := hm x List.mem_cons_self; omega
      | succ k ih =>
        intro xs nd hm
        have h1 := ih (xs.erase ((k : Int) + 1)) (nd.erase _) fun x hx => by
          have hx' := (nd.mem_erase_iff).mp hx
          have := hm x hx'.2
          omega
        have h2 := List.length_erase (a := (k : Int) + 1) (l := xs)
        split at h2 <;> omega
    exact key n.toNat xs R.nd fun x hx => by have := R.mem x hx; omega
theorem flat_len {n : Int} (h1 : n ≤ 5) : ∀ (R : List (List Int)), (R.flatMap (extI n)).length ≤ R.length * 5
  | [] => by simp
  | r :: R => by
    have ih := flat_len h1 R
    have h2 := List.length_filter_le (fun x => decide (x ∉ r)) (ups n)
    rw [ups_length] at h2
    rw [List.flatMap_cons, List.length_append, List.length_cons]
    have : (extI n r).length ≤ 5 := by unfold extI; rw [List.length_map]; omega
    omega
theorem rows_len {n : Int} (h1 : n ≤ 5) : ∀ k, (rowsI n k).length ≤ 5 ^ k
  | 0 => by simp [rowsI]
  | k + 1 => by
    have := flat_len h1 (rowsI n k)
    have := rows_len h1 k
    unfold rowsI
    rw [Nat.pow_succ]
    omega
theorem found_len {n : Int} (h1 : n ≤ 5) : ∀ k, (foundI n k).length ≤ 2 * 5 ^ k
  | 0 => by simp [foundI]
  | k + 1 => by
    have := found_len h1 k
    have := rows_len h1 (k + 1)
    unfold foundI
    rw [List.length_append, Nat.pow_succ] at *
    omega
def allB1 : MS := (sSet 1 4 (mOp2 gAdd (mVar 4) (mLc 1 [6] (mRng2 (mK (.int 1)) (mOp2 gAdd (mVar 0) (mK (.int 1)))) (tName 1 6) (mB (mOp2 gNotIn (mVar 6) (mVar 5))) (mOp2 gAdd (mVar 5) (mTup 1 (mCons (mVar 6) mNil))))))
def allB2 : MS := (sSeq (sSet 1 4 (mLst 1 mNil))
    (sSeq (sFor (mSeq 1 (mVar 2)) (tName 1 5) allB1)
    (sPar 1 [1, 2] (mCons (mOp2 gAdd (mVar 1) (mVar 4)) (mCons (mVar 4) mNil)))))
theorem allB1_eq {n : Int} (h0 : 1 ≤ n) (h1 : n ≤ 5) (S1 S2 S3 : Sl) (M : List (List Int)) (row : List Int) (hl : row.length ≤ 100) (hM : M.length ≤ 100000) :
    allB1 [.im (.int n), S1, S2, S3, .ol (M.map tI), .im (tI row), .no] = .nx [.im (.int n), S1, S2, S3, .ol ((M ++ extI n row).map tI), .im (tI row), .no] := by
  have e1 : (-1000000 ≤ (1 : Int) ∧ (1 : Int) ≤ 1000000) ∧ -1000000 ≤ n + 1 ∧ n + 1 ≤ 1000000 := by omega
  have e3 : rangeD 1 n.toNat = (ups n).map .int := by rw [← rangeD_ups, show n + 1 - 1 = n by omega]
  have lz : row.length + 1 ≤ sizeLine := by rw [sizeLine_eq]; omega
  have lc := lc_map (np := 1) (vs := [6]) (mt := tName 1 6) (mc := mB (mOp2 gNotIn (mVar 6) (mVar 5))) (me := mOp2 gAdd (mVar 5) (mTup 1 (mCons (mVar 6) mNil))) (E := [.im (.int n), S1, S2, S3, .ol (M.map tI), .im (tI row), .no]) PyData.int (fun x => decide (x ∉ row)) (fun x => tI (row ++ [x])) (L := ups n) fun x _ => by
    have ga : gAdd (.im (tI row)) (.im (.tuple [.int x])) = some (.im (tI (row ++ [x]))) := by
      unfold tI gAdd
      simp [lz]
    refine ⟨[.im (.int n), S1, S2, S3, .ol (M.map tI), .im (tI row), .im (.int x)], [.im (.int n), S1, S2, S3, .ol (M.map tI), .im (tI row), .im (.int x)], rfl, ?_, fun _ => ⟨?_, rfl⟩, rfl⟩
    · simp [mVar, gNotIn_tI]
    · simp [mVar, ga]
  have m1 : ((ups n).filter fun x => decide (x ∉ row)).map (fun x => tI (row ++ [x])) = (extI n row).map tI := by unfold extI; rw [List.map_map]; rfl
  rw [m1] at lc
  have z : (M.map tI).length + ((extI n row).map tI).length ≤ sizeLine := by
    have h2 := List.length_filter_le (fun x => decide (x ∉ row)) (ups n)
    rw [ups_length] at h2
    unfold extI
    rw [List.length_map, List.length_map, List.length_map, sizeLine_eq]
    omega
  have ga : gAdd (.ol (M.map tI)) (.ol ((extI n row).map tI)) = some (.tmp (.ol ((M ++ extI n row).map tI))) := by
    rw [gAdd_ol, List.map_append]
    exact if_pos z
  unfold allB1
  generalize (M ++ extI n row).map tI = R at *
  generalize M.map tI = A at *
  generalize (extI n row).map tI = C at *
  simp [mVar, mRng2, e1, e3, wipeE, lc, opv2, view, ga, sStore, setSl, Sl.own]
theorem allB2_eq {n : Int} (h0 : 1 ≤ n) (h1 : n ≤ 5) (k : Nat) (hk : k < 5) (S2 S3 S4 S5 : Sl) (h2 : S2 = .ol ((rowsI n k).map tI) ∨ S2 = .im (.list ((rowsI n k).map tI))) (h4 : S4.own = false ∨ True) :
    ∃ S4' S5', allB2 [.im (.int n), .ol ((foundI n k).map tI), S2, S3, S4, S5, .no] = .nx [.im (.int n), .ol ((foundI n (k + 1)).map tI), .im (.list ((rowsI n (k + 1)).map tI)), S3, S4', S5', .no] := by
  have hp : 5 ^ k ≤ 625 := Nat.pow_le_pow_right (by decide) (show k ≤ 4 by omega)
  have lr := rows_len h1 k
  have lf := found_len h1 k
  let R := rowsI n k
  have hR : rowsI n k = R := rfl
  let E : Nat → En → Prop := fun j e => ∃ x, e = [.im (.int n), .ol ((foundI n k).map tI), .im (.list (R.map tI)), S3, .ol (((R.take j).flatMap (extI n)).map tI), x, .no]
  have hE : ∀ j e, E j e ↔ ∃ x, e = [.im (.int n), .ol ((foundI n k).map tI), .im (.list (R.map tI)), S3, .ol (((R.take j).flatMap (extI n)).map tI), x, .no] := fun _ _ => .rfl
  obtain ⟨e', q1, q2⟩ := loop_ix (mt := tName 1 5) (body := allB1) (E := E) (R.map tI) (e := [.im (.int n), .ol ((foundI n k).map tI), .im (.list (R.map tI)), S3, .ol [], S5, .no]) ((hE _ _).mpr ⟨S5, rfl⟩) fun j d e hd he => by
    obtain ⟨x, rfl⟩ := (hE _ _).mp he
    rw [List.getElem?_map] at hd
    obtain ⟨row, hrow, rfl⟩ := Option.map_eq_some_iff.mp hd
    have hm : row ∈ rowsI n k := List.mem_of_getElem? hrow
    have hrl := ((rows_mem h0 (by omega)).mp hm).2
    have tk : (R.take (j + 1)).flatMap (extI n) = (R.take j).flatMap (extI n) ++ extI n row := by rw [List.take_add_one, hrow, List.flatMap_append]; simp
    have lM : ((R.take j).flatMap (extI n)).length ≤ 100000 := by
      have a1 := flat_len h1 (R.take j)
      have a2 : (R.take j).length ≤ R.length := by rw [List.length_take]; omega
      have a3 : R.length ≤ 5 ^ k := lr
      omega
    refine ⟨[.im (.int n), .ol ((foundI n k).map tI), .im (.list (R.map tI)), S3, .ol (((R.take j).flatMap (extI n)).map tI), .im (tI row), .no], _, by simp [tName, setSl], .inl (allB1_eq h0 h1 _ _ _ _ row (by omega) lM), (hE _ _).mpr ⟨.im (tI row), by rw [tk]⟩⟩
  obtain ⟨x, rfl⟩ := (hE _ _).mp q2
  rw [List.length_map, List.take_length] at q1
  have er : R.flatMap (extI n) = rowsI n (k + 1) := rfl
  rw [er] at q1
  have z : ((foundI n k).map tI).length + ((rowsI n (k + 1)).map tI).length ≤ sizeLine := by
    have := rows_len h1 (k + 1)
    rw [Nat.pow_succ] at this
    rw [List.length_map, List.length_map, sizeLine_eq]
    omega
  have ga : gAdd (.ol ((foundI n k).map tI)) (.ol ((rowsI n (k + 1)).map tI)) = some (.tmp (.ol ((foundI n (k + 1)).map tI))) := by
    have ef : foundI n (k + 1) = foundI n k ++ rowsI n (k + 1) := rfl
    rw [gAdd_ol, ef, List.map_append]
    exact if_pos z
  refine ⟨.im (.list ((rowsI n (k + 1)).map tI)), x, ?_⟩
  unfold allB2
  rw [hR] at h2
  generalize allB1 = b1 at *
  generalize (foundI n (k + 1)).map tI = F1 at *
  generalize (foundI n k).map tI = F at *
  generalize (rowsI n (k + 1)).map tI = R1 at *
  generalize R.map tI = R0 at *
  rcases h2 with rfl | rfl
  · simp [mVar, sStore, setSl, Sl.own, toI, q1, opv2, view, ga]
  · simp [mVar, sStore, setSl, Sl.own, toI, q1, opv2, view, ga]
theorem law_all_eq {n : Int} (h0 : 1 ≤ n) (h1 : n ≤ 5) : f__law_all [.im (.int n)] = .ok (.ol ((foundI n n.toNat).map tI)) [] := by
  let E : Nat → En → Prop := fun i e => ∃ S2 S3 S4 S5, e = [.im (.int n), .ol ((foundI n i).map tI), S2, S3, S4, S5, .no] ∧ (S2 = .ol ((rowsI n i).map tI) ∨ S2 = .im (.list ((rowsI n i).map tI)))
  have hE : ∀ i e, E i e ↔ ∃ S2 S3 S4 S5, e = [.im (.int n), .ol ((foundI n i).map tI), S2, S3, S4, S5, .no] ∧ (S2 = .ol ((rowsI n i).map tI) ∨ S2 = .im (.list ((rowsI n i).map tI))) := fun _ _ => .rfl
  obtain ⟨e', q1, q2⟩ := loop_ix (mt := tName 1 3) (body := allB2) (E := E) (rangeD 0 n.toNat) (e := [.im (.int n), .ol [tI []], .ol [tI []], .no, .no, .no, .no]) ((hE _ _).mpr ⟨_, _, _, _, rfl, .inl rfl⟩) fun i d e hd he => by
    obtain ⟨S2, S3, S4, S5, rfl, h2⟩ := (hE _ _).mp he
    obtain ⟨hi, rfl⟩ := rangeD_get hd
    obtain ⟨S4', S5', q⟩ := allB2_eq h0 h1 i (by omega) S2 (.im (.int (0 + (i : Nat)))) S4 S5 h2 (.inr trivial)
    exact ⟨[.im (.int n), .ol ((foundI n i).map tI), S2, .im (.int (0 + (i : Nat))), S4, S5, .no], _, by simp [tName, setSl], .inl q, (hE _ _).mpr ⟨_, _, _, _, rfl, .inr rfl⟩⟩
  obtain ⟨S2, S3, S4, S5, rfl, h2⟩ := (hE _ _).mp q2
  rw [rangeD_length] at q1
  have er : n ≤ 1000000 ∧ -1000000 ≤ n := by omega
  unfold f__law_all fnOf
  show (match (sSeq (sPar 1 [1, 2] (mCons (mLst 1 (mCons (mTup 1 mNil) mNil)) (mCons (mLst 1 (mCons (mTup 1 mNil) mNil)) mNil))) (sSeq (sFor (mRng1 (mVar 0)) (tName 1 3) allB2) (sRet 1 (mVar 1)))) _ with
    | .rt r e => FR.ok r (outsOf [false] e)
    | .nx e => FR.ok (.im .none) (outsOf [false] e)
    | .exn c e => FR.exn c (outsOf [false] e)
    | _ => FR.stuck) = _
  generalize allB2 = b at *
  generalize (foundI n n.toNat).map tI = F at *
  unfold tI at *
  simp at q1
  simp [mVar, setSl, Sl.own, mRng1, er, q1, outsOf]
end TL

set_option maxRecDepth 100000
namespace TL
open PySem PySem.Spec L2 PL

theorem lay_tIs : ∀ L : List (List Int), PyData.canLayAll0 (L.map tI) = true
  | [] => by simp [PyData.canLayAll0]
  | x :: r => by
    rw [List.map_cons, PyData.canLayAll0, lay_tIs r]
    unfold tI
    rw [PyData.canLay0, lay_ints]
    rfl
theorem depth_tIs : ∀ L : List (List Int), PyData.depthAll (L.map tI) ≤ 1
  | [] => by simp [PyData.depthAll]
  | x :: r => by
    have := depth_tIs r
    rw [List.map_cons, PyData.depthAll]
    unfold tI at *
    rw [PyData.depth, depth_ints]
    omega
theorem nice_tIs (L : List (List Int)) : nice (.list (L.map tI)) = true := by
  have h := depth_tIs L
  unfold nice SeqAt.shaped
  rw [PyData.canLay0, lay_tIs, PyData.depth]
  simp
  omega
theorem gEq_tIs (L : List (List Int)) : gEq (.ol (L.map tI)) (.ol []) = some (.im (.bool (decide (L = [])))) := by
  have n0 : nice (.list []) = true := nice_ints []
  unfold gEq
  simp only [content, nice_tIs, n0, and_self, if_true]
  cases L with
  | nil => rfl
  | cons x r => simp [PyData.eqv, PyData.eqvAll]
theorem all_first {n : Int} {s t : List Act} (h0 : 1 ≤ n) (h1 : n ≤ 5) (hs : ∀ o ∈ s, GoodAct n o) (ht : ∀ o ∈ t, GoodAct n o) :
    decide (((foundI n n.toNat).filter fun xs => !decide (lastI xs s = lastI xs t)) = []) = (firstI n s t).isNone := by
  rw [Bool.eq_iff_iff, decide_eq_true_eq, List.filter_eq_nil_iff, Option.isNone_iff_eq_none, firstI, List.find?_eq_none]
  constructor
  · intro h xs hx
    exact h xs ((all_mem h0 (by omega)).mpr (short_right h0 (by omega) hx))
  · intro h xs hx
    have R := (all_mem h0 (by omega)).mp hx
    have := agree hs ht (fun ys hy => by have := h ys hy; simpa using this) R
    simp [this]
theorem first_sym {n : Int} (s t : List Act) : (firstI n t s).isNone = (firstI n s t).isNone := by
  rw [Bool.eq_iff_iff, Option.isNone_iff_eq_none, Option.isNone_iff_eq_none, firstI, firstI, List.find?_eq_none, List.find?_eq_none]
  constructor
  · intro h xs hx
    have := h xs hx
    simp at this ⊢
    exact this.symm
  · intro h xs hx
    have := h xs hx
    simp at this ⊢
    exact this.symm
theorem first_same {n : Int} (s : List Act) : (firstI n s s).isNone = true := by
  rw [Option.isNone_iff_eq_none, firstI, List.find?_eq_none]
  intro xs _
  simp
theorem law_equal_eq {n : Int} {s t : List Act} (h0 : 1 ≤ n) (h1 : n ≤ 5) (hs : ∀ o ∈ s, GoodAct n o) (ht : ∀ o ∈ t, GoodAct n o) :
    f__law_equal [.im (.list ((foundI n n.toNat).map tI)), .im (.tuple (s.map actD)), .im (.tuple (t.map actD))] = .ok (.im (.bool (firstI n s t).isNone)) [] := by
  have lc := lc_map (np := 3) (vs := [3]) (mt := tName 3 3) (mc := mB (mOp2 gNe (mCall 3 [false, false] TL.f__law_last (mCons (mVar 3) (mCons (mVar 1) mNil))) (mCall 3 [false, false] TL.f__law_last (mCons (mVar 3) (mCons (mVar 2) mNil))))) (me := mVar 3)
    (E := [.im (.list ((foundI n n.toNat).map tI)), .im (.tuple (s.map actD)), .im (.tuple (t.map actD)), .no]) tI (fun xs => !decide (lastI xs s = lastI xs t)) tI (L := foundI n n.toNat) fun xs hx => by
      have R := (all_mem h0 (by omega)).mp hx
      have c1 := fun np env => call2 (np := np) (env := env) (law_last_eq R hs)
      have c2 := fun np env => call2 (np := np) (env := env) (law_last_eq R ht)
      refine ⟨[.im (.list ((foundI n n.toNat).map tI)), .im (.tuple (s.map actD)), .im (.tuple (t.map actD)), .im (tI xs)], [.im (.list ((foundI n n.toNat).map tI)), .im (.tuple (s.map actD)), .im (.tuple (t.map actD)), .im (tI xs)], rfl, ?_, fun _ => ⟨rfl, rfl⟩, rfl⟩
      generalize (foundI n n.toNat).map tI = F at *
      simp [mVar, c1, c2]
  have g := gEq_tIs ((foundI n n.toNat).filter fun xs => !decide (lastI xs s = lastI xs t))
  rw [all_first h0 h1 hs ht] at g
  generalize ((foundI n n.toNat).filter fun xs => !decide (lastI xs s = lastI xs t)).map tI = G at *
  generalize (foundI n n.toNat).map tI = F at *
  unfold f__law_equal fnOf m__law_equal
  simp [mVar, wipeE, lc, opv2, view, g, outsOf]

/-- the operations drawn -/
theorem acts9 (S s1 s3 s5 s6 s7 s8 s10 s11 s12 s13 s14 s15 : Sl) (a b n : Int) (h0 : 1 ≤ n) (h1 : n ≤ 16) (m : Nat) : ∃ (as : List Act) (a' b' : Int), (∀ o ∈ as, GoodAct n o) ∧ as.length ≤ m ∧
    lcLoop 1 [9] (tName 1 9) mYes (mCall 1 [true, false] TL.f__law_step (mCons (mVar 2) (mCons (mVar 4) mNil))) (rangeD 0 m) [S, s1, bagS a b, s3, .im (.int n), s5, s6, s7, s8, .no, s10, s11, s12, s13, s14, s15]
      = .ok (as.map actD) [S, s1, bagS a' b', s3, .im (.int n), s5, s6, s7, s8, .no, s10, s11, s12, s13, s14, s15] := by
  let I : En → Prop := fun e => ∃ a b, e = [S, s1, bagS a b, s3, .im (.int n), s5, s6, s7, s8, .no, s10, s11, s12, s13, s14, s15]
  have hI : ∀ e, I e ↔ ∃ a b, e = [S, s1, bagS a b, s3, .im (.int n), s5, s6, s7, s8, .no, s10, s11, s12, s13, s14, s15] := fun _ => .rfl
  obtain ⟨ds', rs, E', q1, q2, q3, q4⟩ := lc_inv (np := 1) (vs := [9]) (mt := tName 1 9) (mc := mYes) (me := mCall 1 [true, false] TL.f__law_step (mCons (mVar 2) (mCons (mVar 4) mNil))) (I := I) (R := fun _ y => ∃ o, y = actD o ∧ GoodAct n o) (ds := rangeD 0 m) ((hI _).mpr ⟨a, b, rfl⟩)
    fun d hd E hE => by
      obtain ⟨a1, b1, rfl⟩ := (hI _).mp hE
      obtain ⟨o, a2, b2, g, h4⟩ := step_ex a1 b1 n h0 h1
      have c : callS 1 [true, false] f__law_step [.var 2, .im (.int n)] [S, s1, bagS a1 b1, s3, .im (.int n), s5, s6, s7, s8, .im d, s10, s11, s12, s13, s14, s15] = .ok (.im (actD o)) _ := callB rfl rfl h4
      refine ⟨[S, s1, bagS a1 b1, s3, .im (.int n), s5, s6, s7, s8, .im d, s10, s11, s12, s13, s14, s15], true, _, rfl, rfl, (fun h => by cases h), fun _ => ⟨actD o, [S, s1, bagS a2 b2, s3, .im (.int n), s5, s6, s7, s8, .im d, s10, s11, s12, s13, s14, s15], ?_, ⟨o, rfl, g⟩, (hI _).mpr ⟨a2, b2, rfl⟩⟩⟩
      unfold bagS at *
      try simp at c
      simp [mVar, c]
  obtain ⟨a3, b3, rfl⟩ := (hI _).mp q2
  obtain ⟨as, h1, rfl⟩ : ∃ as : List Act, (∀ o ∈ as, GoodAct n o) ∧ rs = as.map actD := by
    clear q1 q3
    induction q4 with
    | nil => exact ⟨[], fun o h => (by cases h), rfl⟩
    | cons hr _ ih =>
      obtain ⟨o, rfl, g⟩ := hr
      obtain ⟨as, h, rfl⟩ := ih
      exact ⟨o :: as, fun x hx => by
        rcases List.mem_cons.mp hx with e | e
        · rw [e]; exact g
        · exact h x e, rfl⟩
  refine ⟨as, a3, b3, h1, ?_, q1⟩
  have l1 := Paired.len q4
  have l2 := q3.length_le
  rw [rangeD_length] at l2
  rw [List.length_map] at l1
  omega
theorem call3v {np j : Nat} {f : Fn} {b c r : D} {ds : List D} {env : En} (hj : env[j]? = some (.ol ds)) (hn : np ≤ j) (h : f [.im (.list ds), .im b, .im c] = .ok (.im r) []) : callS np [false, false, false] f [.var j, .im b, .im c] env = .ok (.im r) (env.set j (.im (.list ds))) := by
  simp [callS, shareArgs, ioVars, fillArgs, toI, hj, hn, h, retRf, PL.writeBack]
theorem lc_mapI {α : Type} {np : Nat} {vs : List Nat} {mt : MT} {mc : M Bool} {me : M Rf} {I : En → Prop} (enc : α → D) (c : α → Bool) (g : α → D) : ∀ {L : List α} {E : En}, I E →
    (∀ x ∈ L, ∀ E, I E → ∃ e1 e2, mt (enc x) E = some e1 ∧ mc e1 = .ok (c x) e2 ∧ (me e2).bindN (toI np) = .ok (g x) e2 ∧ I (wipeE vs e2)) → ∃ E', lcLoop np vs mt mc me (L.map enc) E = .ok ((L.filter c).map g) E' ∧ I E'
  | [], E, hI, _ => ⟨E, rfl, hI⟩
  | x :: r, E, hI, h => by
    obtain ⟨e1, e2, h1, h2, h3, h4⟩ := h x List.mem_cons_self E hI
    obtain ⟨E', q1, q2⟩ := lc_mapI enc c g (L := r) h4 fun y hy => h y (List.mem_cons_of_mem _ hy)
    refine ⟨E', ?_, q2⟩
    rw [List.map_cons]
    unfold lcLoop
    rw [h1]
    dsimp only
    rw [h2, Res.bindN_ok]
    cases hc : c x with
    | false =>
      dsimp only
      rw [q1, List.filter_cons_of_neg (by rw [hc]; exact Bool.false_ne_true)]
    | true =>
      dsimp only
      rw [h3, Res.bindN_ok, q1, Res.bindN_ok, List.filter_cons_of_pos hc, List.map_cons]
def inB16 : MS := (sSeq (sPar 1 [10, 11] (mCons (mCall 1 [true, false] TL.f__law_step (mCons (mVar 2) (mCons (mVar 4) mNil))) (mCons (mCall 1 [true, false] TL.f__law_step (mCons (mVar 2) (mCons (mVar 4) mNil))) mNil)))
    (sSeq (sSet 1 12 (mCall 1 [false, false, false] TL.f__law_equal (mCons (mVar 5) (mCons (mTup 1 (mCons (mVar 10) (mCons (mVar 11) mNil))) (mCons (mTup 1 (mCons (mVar 11) (mCons (mVar 10) mNil))) mNil)))))
    (sSeq (sSet 1 13 (mCall 1 [false, false, false] TL.f_commute (mCons (mVar 4) (mCons (mVar 10) (mCons (mVar 11) mNil)))))
    (sSeq (sIf (mOr (mB (mOp2 gNe (mVar 13) (mVar 12))) (mOr (mNot (mTru (mIs "bool" (mVar 13)))) (mB (mOp2 gNe (mCall 1 [false, false, false] TL.f_commute (mCons (mVar 4) (mCons (mVar 11) (mCons (mVar 10) mNil)))) (mVar 12)))))
    (sRet 1 (mK (.bool false)))
    sNext)
    (sIf (mB (mOp2 gIsNotB (mCall 1 [false, false, false] TL.f_commute (mCons (mVar 4) (mCons (mVar 10) (mCons (mVar 10) mNil)))) (mK (.bool true))))
    (sRet 1 (mK (.bool false)))
    sNext)))))
theorem gNe_bb (b : Bool) : gNe (.im (.bool b)) (.im (.bool b)) = some (.im (.bool false)) := by
  have n : nice (.bool b) = true := by cases b <;> decide +kernel
  have e : PyData.eqv (.bool b) (.bool b) = true := by cases b <;> decide +kernel
  unfold gNe
  simp only [content, n, e, and_self, if_true, Bool.not_true]
theorem seq_nx {a b : MS} {env e1 : En} {R : SR} (h : a env = .nx e1) (k : b e1 = R) : sSeq a b env = R := by
  rw [ap_seq, h]
  exact k
theorem inB16_eq (S s1 s3 s5 s6 s7 s8 s9 s10 s11 s12 s13 s14 s15 : Sl) (a b n : Int) (h0 : 1 ≤ n) (h1 : n ≤ 4) (h5 : s5 = .ol ((foundI n n.toNat).map tI) ∨ s5 = .im (.list ((foundI n n.toNat).map tI))) :
    ∃ a' b' t10 t11 t12 t13, inB16 [S, s1, bagS a b, s3, .im (.int n), s5, s6, s7, s8, s9, s10, s11, s12, s13, s14, s15]
      = .nx [S, s1, bagS a' b', s3, .im (.int n), .im (.list ((foundI n n.toNat).map tI)), s6, s7, s8, s9, t10, t11, t12, t13, s14, s15] := by
  unfold inB16
  obtain ⟨o, a1, b1, go, h2⟩ := step_ex a b n h0 (by omega)
  obtain ⟨p, a2, b2, gp, h3⟩ := step_ex a1 b1 n h0 (by omega)
  have hop : ∀ x ∈ [o, p], GoodAct n x := fun x hx => by
    rcases List.mem_cons.mp hx with e | e
    · rw [e]; exact go
    · rw [List.mem_singleton.mp e]; exact gp
  have hpo : ∀ x ∈ [p, o], GoodAct n x := fun x hx => by
    rcases List.mem_cons.mp hx with e | e
    · rw [e]; exact gp
    · rw [List.mem_singleton.mp e]; exact go
  have e1 : f__law_equal [.im (.list ((foundI n n.toNat).map tI)), .im (.tuple [actD o, actD p]), .im (.tuple [actD p, actD o])] = .ok (.im (.bool (firstI n [o, p] [p, o]).isNone)) [] := law_equal_eq h0 (by omega) hop hpo
  have e2 := commute_eq h0 (by omega) go gp
  have e3 := commute_eq h0 (by omega) gp go
  have e4 := commute_eq h0 (by omega) go go
  rw [first_sym] at e3
  rw [first_same] at e4
  generalize (firstI n [o, p] [p, o]).isNone = r at *
  clear hop hpo go gp
  generalize (foundI n n.toNat).map tI = F at *
  generalize actD o = O at *
  generalize actD p = P at *
  have c1 := fun np env => call3 (np := np) (env := env) e1
  have c2 := fun np env => call3 (np := np) (env := env) e2
  have c3 := fun np env => call3 (np := np) (env := env) e3
  have c4 := fun np env => call3 (np := np) (env := env) e4
  have d1 : callS 1 [true, false] f__law_step [.var 2, .im (.int n)] [S, s1, bagS a b, s3, .im (.int n), s5, s6, s7, s8, s9, s10, s11, s12, s13, s14, s15] = .ok (.im O) [S, s1, bagS a1 b1, s3, .im (.int n), s5, s6, s7, s8, s9, s10, s11, s12, s13, s14, s15] := callB rfl rfl h2
  have d2 : callS 1 [true, false] f__law_step [.var 2, .im (.int n)] [S, s1, bagS a1 b1, s3, .im (.int n), s5, s6, s7, s8, s9, s10, s11, s12, s13, s14, s15] = .ok (.im P) [S, s1, bagS a2 b2, s3, .im (.int n), s5, s6, s7, s8, s9, s10, s11, s12, s13, s14, s15] := callB rfl rfl h3
  have gb := gNe_bb r
  refine ⟨a2, b2, .im O, .im P, .im (.bool r), .im (.bool r), ?_⟩
  refine seq_nx (e1 := [S, s1, bagS a2 b2, s3, .im (.int n), s5, s6, s7, s8, s9, .im O, .im P, s12, s13, s14, s15]) ?_ ?_
  · unfold bagS at *
    try simp at d1 d2
    simp [mVar, d1, d2, sStore, setSl, Sl.own, toI]
  clear d1 d2 h2 h3
  refine seq_nx (e1 := [S, s1, bagS a2 b2, s3, .im (.int n), .im (.list F), s6, s7, s8, s9, .im O, .im P, .im (.bool r), s13, s14, s15]) ?_ ?_
  · rcases h5 with rfl | rfl
    · have c1' : callS 1 [false, false, false] f__law_equal [.var 5, .im (.tuple [O, P]), .im (.tuple [P, O])] [S, s1, bagS a2 b2, s3, .im (.int n), .ol F, s6, s7, s8, s9, .im O, .im P, s12, s13, s14, s15] = .ok (.im (.bool r)) [S, s1, bagS a2 b2, s3, .im (.int n), .im (.list F), s6, s7, s8, s9, .im O, .im P, s12, s13, s14, s15] := call3v rfl (by decide) e1
      simp [mVar, c1', sStore, setSl, Sl.own]
    · simp [mVar, c1, sStore, setSl, Sl.own]
  simp [mVar, c2, c3, c4, sStore, setSl, Sl.own, opv2, view, gb, truS, gIsNotB, mIs, tyOf, isT]
def turnB : MS := (sSeq (sSet 1 4 (mOp2 gAdd (mK (.int 1)) (mCall 1 [true, false] TL.f__law_take (mCons (mVar 2) (mCons (mK (.int 4)) mNil)))))
    (sSeq (sSet 1 5 (mCall 1 [false] TL.f__law_all (mCons (mVar 4) mNil)))
    (sSeq (sSet 1 6 (mCB gTuple (mCons (mLc 1 [9] (mRng1 (mCall 1 [true, false] TL.f__law_take (mCons (mVar 2) (mCons (mK (.int 7)) mNil)))) (tName 1 9) mYes (mCall 1 [true, false] TL.f__law_step (mCons (mVar 2) (mCons (mVar 4) mNil)))) mNil)))
    (sSeq (sSet 1 7 (mLc 1 [15] (mRng1 (mCB gLen (mCons (mVar 6) mNil))) (tName 1 15) (mTru (mCall 1 [false, false, false] TL.f__law_equal (mCons (mVar 5) (mCons (mOp2 gAdd (mSlice (mVar 6) mNoPart (mPart (mVar 15))) (mSlice (mVar 6) (mPart (mOp2 gAdd (mVar 15) (mK (.int 1)))) mNoPart)) (mCons (mVar 6) mNil))))) (mVar 15)))
    (sSeq (sSet 1 8 (mCall 1 [false, false] TL.f_needless (mCons (mVar 4) (mCons (mVar 6) mNil))))
    (sSeq (sIf (mB (mOp2 gNe (mVar 8) (mVar 7)))
    (sRet 1 (mK (.bool false)))
    sNext)
    (sSeq (sDrop (mAppend 1 8 (mK .none)))
    (sSeq (sIf (mB (mOp2 gNe (mCall 1 [false, false] TL.f_needless (mCons (mVar 4) (mCons (mVar 6) mNil))) (mVar 7)))
    (sRet 1 (mK (.bool false)))
    sNext)
    (sFor (mRng1 (mK (.int 4))) (tName 1 9) inB16)))))))))
theorem due_eq (S s1 s2 s3 s7 s8 s9 s10 s11 s12 s13 s14 : Sl) (n : Int) (h0 : 1 ≤ n) (h1 : n ≤ 4) (as : List Act) (hs : ∀ o ∈ as, GoodAct n o) (hl : as.length ≤ 40) :
    ∃ s5, lcLoop 1 [15] (tName 1 15) (mTru (mCall 1 [false, false, false] TL.f__law_equal (mCons (mVar 5) (mCons (mOp2 gAdd (mSlice (mVar 6) mNoPart (mPart (mVar 15))) (mSlice (mVar 6) (mPart (mOp2 gAdd (mVar 15) (mK (.int 1)))) mNoPart)) (mCons (mVar 6) mNil))))) (mVar 15) (rangeD 0 as.length)
      [S, s1, s2, s3, .im (.int n), .ol ((foundI n n.toNat).map tI), .im (.tuple (as.map actD)), s7, s8, s9, s10, s11, s12, s13, s14, .no]
      = .ok ((needI n as).map .int) [S, s1, s2, s3, .im (.int n), s5, .im (.tuple (as.map actD)), s7, s8, s9, s10, s11, s12, s13, s14, .no] ∧ (s5 = .ol ((foundI n n.toNat).map tI) ∨ s5 = .im (.list ((foundI n n.toNat).map tI))) := by
  let I : En → Prop := fun e => ∃ s5, e = [S, s1, s2, s3, .im (.int n), s5, .im (.tuple (as.map actD)), s7, s8, s9, s10, s11, s12, s13, s14, .no] ∧ (s5 = .ol ((foundI n n.toNat).map tI) ∨ s5 = .im (.list ((foundI n n.toNat).map tI)))
  have hI : ∀ e, I e ↔ ∃ s5, e = [S, s1, s2, s3, .im (.int n), s5, .im (.tuple (as.map actD)), s7, s8, s9, s10, s11, s12, s13, s14, .no] ∧ (s5 = .ol ((foundI n n.toNat).map tI) ∨ s5 = .im (.list ((foundI n n.toNat).map tI))) := fun _ => .rfl
  have lc := lc_mapI (np := 1) (vs := [15]) (mt := tName 1 15) (mc := (mTru (mCall 1 [false, false, false] TL.f__law_equal (mCons (mVar 5) (mCons (mOp2 gAdd (mSlice (mVar 6) mNoPart (mPart (mVar 15))) (mSlice (mVar 6) (mPart (mOp2 gAdd (mVar 15) (mK (.int 1)))) mNoPart)) (mCons (mVar 6) mNil)))))) (me := mVar 15) (I := I)
    (E := [S, s1, s2, s3, .im (.int n), .ol ((foundI n n.toNat).map tI), .im (.tuple (as.map actD)), s7, s8, s9, s10, s11, s12, s13, s14, .no]) (fun i : Nat => PyData.int (0 + (i : Int))) (needB n as) (fun i : Nat => PyData.int (i : Int)) (L := List.range as.length) ((hI _).mpr ⟨_, rfl, .inl rfl⟩) fun i hi E hE => by
      obtain ⟨s5, rfl, h5⟩ := (hI _).mp hE
      have hi := List.mem_range.mp hi
      refine ⟨[S, s1, s2, s3, .im (.int n), s5, .im (.tuple (as.map actD)), s7, s8, s9, s10, s11, s12, s13, s14, .im (.int i)], [S, s1, s2, s3, .im (.int n), .im (.list ((foundI n n.toNat).map tI)), .im (.tuple (as.map actD)), s7, s8, s9, s10, s11, s12, s13, s14, .im (.int i)], ?_, ?_, rfl, (hI _).mpr ⟨_, rfl, .inr rfl⟩⟩
      · rw [Int.zero_add]; rfl
      have hz : ((as.map actD).length : Int) = as.length := by rw [List.length_map]
      have e1 := cut_to (as.map actD) i (by omega) (by omega)
      have e2 := cut_from (as.map actD) (i + 1) (by omega) (by omega)
      rw [Int.toNat_natCast] at e1
      rw [show ((i : Int) + 1).toNat = i + 1 by omega] at e2
      have lz : ((as.map actD).take i).length + ((as.map actD).drop (i + 1)).length ≤ sizeLine := by rw [List.length_take, List.length_drop, List.length_map, sizeLine_eq]; omega
      have ga : gAdd (.im (.tuple ((as.map actD).take i))) (.im (.tuple ((as.map actD).drop (i + 1)))) = some (.im (.tuple ((as.eraseIdx i).map actD))) := by
        rw [← erase_act]
        unfold gAdd
        dsimp only
        rw [if_pos lz]
      have q := law_equal_eq h0 (show n ≤ 5 by omega) (good_erase hs i) hs
      have c := fun np env => call3 (np := np) (env := env) q
      have eb : (firstI n (as.eraseIdx i) as).isNone = needB n as i := rfl
      rw [eb] at c q
      generalize (as.map actD).take i = A at *
      generalize (as.map actD).drop (i + 1) = C at *
      generalize needB n as i = r at *
      generalize (foundI n n.toNat).map tI = F at *
      rcases h5 with rfl | rfl
      · have c1' : callS 1 [false, false, false] f__law_equal [.var 5, .im (.tuple ((as.eraseIdx i).map actD)), .im (.tuple (as.map actD))] [S, s1, s2, s3, .im (.int n), .ol F, .im (.tuple (as.map actD)), s7, s8, s9, s10, s11, s12, s13, s14, .im (.int i)] = .ok (.im (.bool r)) [S, s1, s2, s3, .im (.int n), .im (.list F), .im (.tuple (as.map actD)), s7, s8, s9, s10, s11, s12, s13, s14, .im (.int i)] := call3v rfl (by decide) q
        simp [mVar, mSlice, mPart, mNoPart, view, e1, e2, ga, c1', truS]
      · simp [mVar, mSlice, mPart, mNoPart, view, e1, e2, ga, c, truS]
  have m : ((List.range as.length).filter (needB n as)).map (fun i : Nat => PyData.int (i : Int)) = (needI n as).map .int := by
    unfold needI
    rw [List.map_map]
    rfl
  rw [m] at lc
  obtain ⟨E', q1, q2⟩ := lc
  obtain ⟨s5, rfl, h5⟩ := (hI _).mp q2
  exact ⟨s5, q1, h5⟩
theorem turnB_eq (S s1 s3 s4 s5 s6 s7 s8 s9 s10 s11 s12 s13 s14 s15 : Sl) (a b : Int) :
    ∃ a' b' t4 t5 t6 t7 t8 t9 t10 t11 t12 t13 t15, turnB [S, s1, bagS a b, s3, s4, s5, s6, s7, s8, s9, s10, s11, s12, s13, s14, s15]
      = .nx [S, s1, bagS a' b', s3, t4, t5, t6, t7, t8, t9, t10, t11, t12, t13, s14, t15] := by
  have key : ∃ e2, turnB [S, s1, bagS a b, s3, s4, s5, s6, s7, s8, s9, s10, s11, s12, s13, s14, s15] = .nx e2 ∧ ∃ a' b' t4 t5 t6 t7 t8 t9 t10 t11 t12 t13 t15, e2 = [S, s1, bagS a' b', s3, t4, t5, t6, t7, t8, t9, t10, t11, t12, t13, s14, t15] := by
    unfold turnB
    obtain ⟨r, a1, b1, h2, h3, h4⟩ := take_ex a b 4 (by decide) (by decide)
    have c1 : callS 1 [true, false] f__law_take [.var 2, .im (.int 4)] [S, s1, bagS a b, s3, s4, s5, s6, s7, s8, s9, s10, s11, s12, s13, s14, s15] = .ok (.im (.int r)) [S, s1, bagS a1 b1, s3, s4, s5, s6, s7, s8, s9, s10, s11, s12, s13, s14, s15] := callB rfl rfl h4
    generalize hn : 1 + r = n at *
    have n0 : 1 ≤ n := by omega
    have n1 : n ≤ 4 := by omega
    refine step_nx (env' := [S, s1, bagS a1 b1, s3, .im (.int n), s5, s6, s7, s8, s9, s10, s11, s12, s13, s14, s15]) ?_ ?_
    · unfold bagS at *
      try simp at c1
      simp [mVar, c1, sStore, setSl, gAdd, hn]
    clear c1 h4
    have cF := fun np env => call1T (np := np) (env := env) (law_all_eq n0 (show n ≤ 5 by omega))
    refine step_nx (env' := [S, s1, bagS a1 b1, s3, .im (.int n), .ol ((foundI n n.toNat).map tI), s6, s7, s8, s9, s10, s11, s12, s13, s14, s15]) ?_ ?_
    · generalize (foundI n n.toNat).map tI = F at *
      simp [mVar, cF, sStore, setSl]
    obtain ⟨q, a2, b2, h5, h6, h7⟩ := take_ex a1 b1 7 (by decide) (by decide)
    have c5 : callS 1 [true, false] f__law_take [.var 2, .im (.int 7)] [S, s1, bagS a1 b1, s3, .im (.int n), .ol ((foundI n n.toNat).map tI), s6, s7, s8, s9, s10, s11, s12, s13, s14, s15] = .ok (.im (.int q)) [S, s1, bagS a2 b2, s3, .im (.int n), .ol ((foundI n n.toNat).map tI), s6, s7, s8, s9, s10, s11, s12, s13, s14, s15] := callB rfl rfl h7
    obtain ⟨as, a3, b3, g1, g2, lc9⟩ := acts9 S s1 s3 (.ol ((foundI n n.toNat).map tI)) s6 s7 s8 s10 s11 s12 s13 s14 s15 a2 b2 n n0 (by omega) q.toNat
    refine step_nx (env' := [S, s1, bagS a3 b3, s3, .im (.int n), .ol ((foundI n n.toNat).map tI), .im (.tuple (as.map actD)), s7, s8, .no, s10, s11, s12, s13, s14, s15]) ?_ ?_
    · have er : q ≤ 1000000 ∧ -1000000 ≤ q := by omega
      generalize (foundI n n.toNat).map tI = F at *
      unfold bagS at *
      try simp at c5
      simp [mVar, c5, mRng1, er, wipeE, lc9, gTuple, items, sStore, setSl]
    clear c5 h7 lc9
    have la : as.length ≤ 7 := by omega
    obtain ⟨r5, dd, h5⟩ := due_eq S s1 (bagS a3 b3) s3 s7 s8 .no s10 s11 s12 s13 s14 n n0 n1 as g1 (by omega)
    refine step_nx (env' := [S, s1, bagS a3 b3, s3, .im (.int n), r5, .im (.tuple (as.map actD)), .ol ((needI n as).map .int), s8, .no, s10, s11, s12, s13, s14, .no]) ?_ ?_
    · clear h5
      have er : ((as.length : Nat) : Int) ≤ 1000000 ∧ (-1000000 : Int) ≤ (as.length : Int) := by omega
      generalize (foundI n n.toNat).map tI = F at *
      generalize (needI n as).map PyData.int = N at *
      simp [mVar, mRng1, er, wipeE, dd, sStore, setSl, gLen, items]
    clear dd
    have cN := fun np env => call2T (np := np) (env := env) (needless_eq n0 (show n ≤ 16 by omega) g1 (by omega))
    have gN : gNe (.ol ((needI n as).map .int)) (.ol ((needI n as).map .int)) = some (.im (.bool false)) := by rw [gNe_ints]; simp
    have lN : ((needI n as).map PyData.int).length < sizeLine := by
      have := List.length_filter_le (needB n as) (List.range as.length)
      rw [List.length_range] at this
      unfold needI
      rw [List.length_map, List.length_map, sizeLine_eq]
      omega
    generalize (needI n as).map PyData.int = N at *
    refine step_nx (env' := [S, s1, bagS a3 b3, s3, .im (.int n), r5, .im (.tuple (as.map actD)), .ol N, .ol N, .no, s10, s11, s12, s13, s14, .no]) ?_ ?_
    · clear h5
      simp [mVar, cN, sStore, setSl]
    refine step_nx (env' := [S, s1, bagS a3 b3, s3, .im (.int n), r5, .im (.tuple (as.map actD)), .ol N, .ol N, .no, s10, s11, s12, s13, s14, .no]) ?_ ?_
    · clear h5
      simp [mVar, opv2, view, gN, truS]
    refine step_nx (env' := [S, s1, bagS a3 b3, s3, .im (.int n), r5, .im (.tuple (as.map actD)), .ol N, .ol (N ++ [.none]), .no, s10, s11, s12, s13, s14, .no]) ?_ ?_
    · clear h5
      simp [mAppend, lN]
    refine step_nx (env' := [S, s1, bagS a3 b3, s3, .im (.int n), r5, .im (.tuple (as.map actD)), .ol N, .ol (N ++ [.none]), .no, s10, s11, s12, s13, s14, .no]) ?_ ?_
    · clear h5
      simp [mVar, opv2, view, cN, gN, truS]
    generalize hS6 : Sl.im (.tuple (as.map actD)) = S6
    generalize hS7 : Sl.ol N = S7
    generalize hS8 : Sl.ol (N ++ [.none]) = S8
    let I : En → Prop := fun e => ∃ a b u5 t9 t10 t11 t12 t13, e = [S, s1, bagS a b, s3, .im (.int n), u5, S6, S7, S8, t9, t10, t11, t12, t13, s14, .no] ∧ (u5 = .ol ((foundI n n.toNat).map tI) ∨ u5 = .im (.list ((foundI n n.toNat).map tI)))
    have hI : ∀ e, I e ↔ ∃ a b u5 t9 t10 t11 t12 t13, e = [S, s1, bagS a b, s3, .im (.int n), u5, S6, S7, S8, t9, t10, t11, t12, t13, s14, .no] ∧ (u5 = .ol ((foundI n n.toNat).map tI) ∨ u5 = .im (.list ((foundI n n.toNat).map tI))) := fun _ => .rfl
    obtain ⟨e9, q1, q2⟩ := loop_inv (mt := tName 1 9) (body := inB16) (I := I) (ds := rangeD 0 4) (e := [S, s1, bagS a3 b3, s3, .im (.int n), r5, S6, S7, S8, .no, s10, s11, s12, s13, s14, .no]) ((hI _).mpr ⟨_, _, _, _, _, _, _, _, rfl, h5⟩) fun d hd e he => by
      obtain ⟨a, b, u5, t9, t10, t11, t12, t13, rfl, g5⟩ := (hI _).mp he
      obtain ⟨a', b', u10, u11, u12, u13, q⟩ := inB16_eq S s1 s3 u5 S6 S7 S8 (.im d) t10 t11 t12 t13 s14 .no a b n n0 n1 g5
      exact ⟨[S, s1, bagS a b, s3, .im (.int n), u5, S6, S7, S8, .im d, t10, t11, t12, t13, s14, .no], _, by simp [tName, setSl], .inl q, (hI _).mpr ⟨_, _, _, _, _, _, _, _, rfl, .inr rfl⟩⟩
    obtain ⟨a5, b5, u5, t9, t10, t11, t12, t13, rfl, g5⟩ := (hI _).mp q2
    refine ⟨[S, s1, bagS a5 b5, s3, .im (.int n), u5, S6, S7, S8, t9, t10, t11, t12, t13, s14, .no], ?_, a5, b5, .im (.int n), u5, S6, S7, S8, t9, t10, t11, t12, t13, .no, rfl⟩
    clear h5 g5
    generalize inB16 = body at *
    simp [mRng1, q1]
  obtain ⟨e2, h1, a', b', t4, t5, t6, t7, t8, t9, t10, t11, t12, t13, t15, rfl⟩ := key
  exact ⟨a', b', t4, t5, t6, t7, t8, t9, t10, t11, t12, t13, t15, h1⟩

def bodyO : MS := (sSeq (sSet 1 2 (mCall 1 [false, false] TL.f__law_bag (mCons (mVar 0) (mCons (mVar 1) mNil))))
    (sFor (mRng1 (mK (.int 3))) (tName 1 3) turnB))
theorem bodyO_ok (ns : List Int) (k : Nat) (hk : k < 1000) (s2 s3 s4 s5 s6 s7 s8 s9 s10 s11 s12 s13 s14 s15 : Sl) : ∃ e2, bodyO [scrS ns, .im (.int k), s2, s3, s4, s5, s6, s7, s8, s9, s10, s11, s12, s13, s14, s15] = .nx e2 ∧ ∃ r : List Sl, r.length = 15 ∧ e2 = scrS ns :: r := by
  unfold bodyO
  obtain ⟨a, b, h1⟩ := bag_ex ns k hk
  have c1 : callS 1 [false, false] f__law_bag [.im (.dict [(.none, .list (ns.map .int))]), .im (.int k)] [scrS ns, .im (.int k), s2, s3, s4, s5, s6, s7, s8, s9, s10, s11, s12, s13, s14, s15] = .ok (.tmp (bagS a b)) [scrS ns, .im (.int k), s2, s3, s4, s5, s6, s7, s8, s9, s10, s11, s12, s13, s14, s15] := call2T h1
  refine step_nx (env' := [scrS ns, .im (.int k), bagS a b, s3, s4, s5, s6, s7, s8, s9, s10, s11, s12, s13, s14, s15]) ?_ ?_
  · unfold scrS bagS at *
    simp [mVar, c1, sStore, setSl]
  clear c1 h1
  generalize hS : scrS ns = S
  generalize hK : Sl.im (.int (k : Int)) = s1
  let I : En → Prop := fun e => ∃ a b t3 t4 t5 t6 t7 t8 t9 t10 t11 t12 t13 t14 t15, e = [S, s1, bagS a b, t3, t4, t5, t6, t7, t8, t9, t10, t11, t12, t13, t14, t15]
  have hI : ∀ e, I e ↔ ∃ a b t3 t4 t5 t6 t7 t8 t9 t10 t11 t12 t13 t14 t15, e = [S, s1, bagS a b, t3, t4, t5, t6, t7, t8, t9, t10, t11, t12, t13, t14, t15] := fun _ => .rfl
  obtain ⟨e9, q1, q2⟩ := loop_inv (mt := tName 1 3) (body := turnB) (I := I) (ds := rangeD 0 3) (e := [S, s1, bagS a b, s3, s4, s5, s6, s7, s8, s9, s10, s11, s12, s13, s14, s15]) ((hI _).mpr ⟨_, _, _, _, _, _, _, _, _, _, _, _, _, _, _, rfl⟩) fun d hd e he => by
    obtain ⟨a, b, t3, t4, t5, t6, t7, t8, t9, t10, t11, t12, t13, t14, t15, rfl⟩ := (hI _).mp he
    obtain ⟨a', b', u4, u5, u6, u7, u8, u9, u10, u11, u12, u13, u15, q⟩ := turnB_eq S s1 (.im d) t4 t5 t6 t7 t8 t9 t10 t11 t12 t13 t14 t15 a b
    exact ⟨[S, s1, bagS a b, .im d, t4, t5, t6, t7, t8, t9, t10, t11, t12, t13, t14, t15], _, by simp [tName, setSl], .inl q, (hI _).mpr ⟨_, _, _, _, _, _, _, _, _, _, _, _, _, _, _, rfl⟩⟩
  obtain ⟨a5, b5, t3, t4, t5, t6, t7, t8, t9, t10, t11, t12, t13, t14, t15, rfl⟩ := (hI _).mp q2
  refine ⟨[S, s1, bagS a5 b5, t3, t4, t5, t6, t7, t8, t9, t10, t11, t12, t13, t14, t15], ?_, [s1, bagS a5 b5, t3, t4, t5, t6, t7, t8, t9, t10, t11, t12, t13, t14, t15], rfl, rfl⟩
  clear hS hK
  generalize turnB = body at *
  simp [mRng1, q1]
theorem good_of {n : Int} {k : Bool} {l : List Int} (h1 : l ≠ []) (h2 : ∀ x ∈ l, 1 ≤ x ∧ x ≤ n) (h3 : l.Pairwise (· < ·)) : GoodAct n ⟨k, l⟩ := ⟨h1, h2, h3⟩
theorem ex1 : f_needless [.im (.int 3), .im (.tuple [.tuple [.str "remove", .tuple [.int 1]], .tuple [.str "add", .tuple [.int 2]], .tuple [.str "remove", .tuple [.int 1, .int 2]]])] = .ok (.ol [.int 0, .int 1]) [] := by
  have h := needless_eq (n := 3) (s := [⟨false, [1]⟩, ⟨true, [2]⟩, ⟨false, [1, 2]⟩]) (by decide) (by decide) (by
    intro o ho
    simp only [List.mem_cons, List.not_mem_nil, or_false] at ho
    rcases ho with rfl | rfl | rfl
    · exact good_of (by decide) (by decide) (by decide)
    · exact good_of (by decide) (by decide) (by decide)
    · exact good_of (by decide) (by decide) (by decide)) (by decide)
  have v : needI 3 [⟨false, [1]⟩, ⟨true, [2]⟩, ⟨false, [1, 2]⟩] = [0, 1] := by decide +kernel
  rw [v] at h
  exact h
theorem ex2 : f_needless [.im (.int 2), .im (.tuple [])] = .ok (.ol []) [] := by
  have h := needless_eq (n := 2) (s := []) (by decide) (by decide) (fun o ho => by cases ho) (by decide)
  have v : needI 2 [] = [] := by decide +kernel
  rw [v] at h
  exact h
theorem ex3 : f_commute [.im (.int 3), .im (.tuple [.str "add", .tuple [.int 1]]), .im (.tuple [.str "add", .tuple [.int 2]])] = .ok (.im (.bool false)) [] := by
  have h := commute_eq (n := 3) (o := ⟨true, [1]⟩) (p := ⟨true, [2]⟩) (by decide) (by decide) (good_of (by decide) (by decide) (by decide)) (good_of (by decide) (by decide) (by decide))
  have v : (firstI 3 [⟨true, [1]⟩, ⟨true, [2]⟩] [⟨true, [2]⟩, ⟨true, [1]⟩]).isNone = false := by decide +kernel
  rw [v] at h
  exact h
theorem ex4 : f_commute [.im (.int 3), .im (.tuple [.str "add", .tuple [.int 1]]), .im (.tuple [.str "remove", .tuple [.int 2]])] = .ok (.im (.bool true)) [] := by
  have h := commute_eq (n := 3) (o := ⟨true, [1]⟩) (p := ⟨false, [2]⟩) (by decide) (by decide) (good_of (by decide) (by decide) (by decide)) (good_of (by decide) (by decide) (by decide))
  have v : (firstI 3 [⟨true, [1]⟩, ⟨false, [2]⟩] [⟨false, [2]⟩, ⟨true, [1]⟩]).isNone = true := by decide +kernel
  rw [v] at h
  exact h
theorem keeps_k16 : Keeps f_law_k16 := fun ns hl => by
  have hmin : ∃ m : Nat, m ≤ 7 ∧ gMin [.im (.int ns.length), .im (.int 5)] = some (.im (.int ((m : Int) - 2))) := by
    refine ⟨(if (5 : Int) < ns.length then 5 else ns.length) + 2, by split <;> omega, ?_⟩
    unfold gMin
    dsimp only
    congr 3
    split <;> omega
  obtain ⟨m, hm, hg⟩ := hmin
  let I : En → Prop := fun e => ∃ r : List Sl, r.length = 15 ∧ e = scrS ns :: r
  have hI : ∀ e, I e ↔ ∃ r : List Sl, r.length = 15 ∧ e = scrS ns :: r := fun _ => .rfl
  obtain ⟨e', q1, q2⟩ := loop_inv (mt := tName 1 1) (body := bodyO) (I := I) (ds := rangeD 0 m) (e := scrS ns :: List.replicate 15 .no) ((hI _).mpr ⟨_, rfl, rfl⟩) fun d hd e he => by
    obtain ⟨r, hr, rfl⟩ := (hI _).mp he
    obtain ⟨s1, s2, s3, s4, s5, s6, s7, s8, s9, s10, s11, s12, s13, s14, s15, rfl⟩ := len15 hr
    obtain ⟨i, hi⟩ := List.mem_iff_getElem?.mp hd
    obtain ⟨h1, rfl⟩ := rangeD_get hi
    obtain ⟨e2, b1, b2⟩ := bodyO_ok ns i (by omega) s2 s3 s4 s5 s6 s7 s8 s9 s10 s11 s12 s13 s14 s15
    refine ⟨[scrS ns, .im (.int i), s2, s3, s4, s5, s6, s7, s8, s9, s10, s11, s12, s13, s14, s15], e2, ?_, .inl b1, (hI _).mpr b2⟩
    rw [Int.zero_add]
    simp [tName, setSl]
  obtain ⟨r, hr, rfl⟩ := (hI _).mp q2
  obtain ⟨s1, s2, s3, s4, s5, s6, s7, s8, s9, s10, s11, s12, s13, s14, s15, rfl⟩ := len15 hr
  have r1 := fun np env => call2T (np := np) (env := env) ex1
  have r2 := fun np env => call2T (np := np) (env := env) ex2
  have r3 := fun np env => call3 (np := np) (env := env) ex3
  have r4 := fun np env => call3 (np := np) (env := env) ex4
  have g1 : gNe (.ol [.int 0, .int 1]) (.ol [.int 0, .int 1]) = some (.im (.bool false)) := by
    have h := gNe_ints [0, 1] [0, 1]
    simpa using h
  have g2 : gNe (.ol []) (.ol []) = some (.im (.bool false)) := gNe_ints [] []
  have g3 : gEq (.ol [.bool false, .bool true]) (.ol [.bool false, .bool true]) = some (.im (.bool true)) := by
    have n : nice (.list [.bool false, .bool true]) = true := by decide +kernel
    have h : PyData.eqv (.list [.bool false, .bool true]) (.list [.bool false, .bool true]) = true := by decide +kernel
    unfold gEq
    simp only [content, n, h, and_self, if_true]
  have em : (-1000000 : Int) ≤ (m : Int) ∧ (m : Int) ≤ 1000000 := by omega
  refine ⟨outsOf [false] [scrS ns, s1, s2, s3, s4, s5, s6, s7, s8, s9, s10, s11, s12, s13, .no, s15], ?_⟩
  unfold bodyO turnB inB16 at q1
  unfold f_law_k16 fnOf m_law_k16
  generalize sSeq (sSet 1 2 _) _ = body at q1 ⊢
  unfold scrS at *
  simp at q1
  simp [mVar, hg, mRng1, em, q1, r1, r2, r3, r4, g1, g2, g3, opv2, view, wipeE, lcLoop, tName, setSl, truS, outsOf, toI]
end TL

set_option maxRecDepth 100000
namespace TL
open PySem PySem.Spec L2 PL

/-! ### the short lists, sorted by length and items -/
def encL (xs : List Int) : D := .tuple [.int xs.length, tI xs]
def idxS (n : Int) (a : List Int) : Nat := (shortI n).idxOf a
def sameOrd (n : Int) : Bool := (shortI n).all fun a => (shortI n).all fun b => decide (idxS n a ≤ idxS n b) == leD (encL a) (encL b)
theorem same_ord {n : Int} (h0 : 1 ≤ n) (h1 : n ≤ 4) : sameOrd n = true := by
  have : n = 1 ∨ n = 2 ∨ n = 3 ∨ n = 4 := by omega
  rcases this with rfl | rfl | rfl | rfl <;> decide +kernel
theorem perm_short {n : Int} (h0 : 1 ≤ n) (h1 : n ≤ 4) : ((foundI n n.toNat).filter fun xs => decide (xs.length < 3)).Perm (shortI n) := by
  rw [← List.isPerm_iff]
  have : n = 1 ∨ n = 2 ∨ n = 3 ∨ n = 4 := by omega
  rcases this with rfl | rfl | rfl | rfl <;> decide +kernel
theorem nodup_short {n : Int} (h0 : 1 ≤ n) (h1 : n ≤ 4) : (shortI n).Nodup := by
  have : n = 1 ∨ n = 2 ∨ n = 3 ∨ n = 4 := by omega
  rcases this with rfl | rfl | rfl | rfl <;> decide +kernel
def pwS (n : Int) : Bool := decide ((shortI n).Pairwise fun a b => idxS n a ≤ idxS n b)
theorem pw_short {n : Int} (h0 : 1 ≤ n) (h1 : n ≤ 4) : (shortI n).Pairwise fun a b => idxS n a ≤ idxS n b := by
  have h : pwS n = true := by
    have : n = 1 ∨ n = 2 ∨ n = 3 ∨ n = 4 := by omega
    rcases this with rfl | rfl | rfl | rfl <;> decide +kernel
  exact of_decide_eq_true h
theorem idx_inj {n : Int} {a b : List Int} (ha : a ∈ shortI n) (hb : b ∈ shortI n) (h : idxS n a = idxS n b) : a = b := by
  have h1 := List.getElem_idxOf (List.idxOf_lt_length_of_mem ha)
  have h2 := List.getElem_idxOf (List.idxOf_lt_length_of_mem hb)
  unfold idxS at h
  rw [← h1, ← h2]
  congr 1
theorem few_sorted {n : Int} (h0 : 1 ≤ n) (h1 : n ≤ 4) (c : List Int → Bool) :
    ((((foundI n n.toNat).filter c).filter fun xs => decide (xs.length < 3)).map encL).mergeSort leD = ((shortI n).filter c).map encL := by
  have hp : (((foundI n n.toNat).filter c).filter fun xs => decide (xs.length < 3)).Perm ((shortI n).filter c) := by
    have := (perm_short h0 h1).filter c
    rw [List.filter_filter] at this ⊢
    refine .trans (List.Perm.of_eq ?_) this
    refine List.filter_congr fun x _ => ?_
    exact Bool.and_comm _ _
  generalize hM : (((foundI n n.toNat).filter c).filter fun xs => decide (xs.length < 3)) = M at *
  have hm : ∀ a ∈ M, a ∈ shortI n := fun a ha => (List.mem_filter.mp (hp.mem_iff.mp ha)).1
  have so := same_ord h0 h1
  have key : ∀ a ∈ M, ∀ b ∈ M, decide (idxS n a ≤ idxS n b) = leD (encL a) (encL b) := fun a ha b hb => by
    have := List.all_eq_true.mp (List.all_eq_true.mp so a (hm a ha)) b (hm b hb)
    exact eq_of_beq this
  rw [← List.map_mergeSort (r := fun a b => decide (idxS n a ≤ idxS n b)) key]
  congr 1
  have pm := (List.mergeSort_perm M fun a b => decide (idxS n a ≤ idxS n b)).trans hp
  refine List.Perm.eq_of_pairwise (le := fun a b => idxS n a ≤ idxS n b) (fun a b ha hb q1 q2 => ?_) ?_ ((pw_short h0 h1).filter _) pm
  · exact idx_inj (List.mem_filter.mp (pm.mem_iff.mp ha)).1 (List.mem_filter.mp hb).1 (by omega)
  · refine (List.pairwise_mergeSort (le := fun a b => decide (idxS n a ≤ idxS n b)) (fun a b c h1 h2 => ?_) (fun a b => ?_) M).imp fun h => of_decide_eq_true h
    · rw [decide_eq_true_eq] at *
      omega
    · rw [Bool.or_eq_true, decide_eq_true_eq, decide_eq_true_eq]
      omega
theorem find_head {α : Type} (c : α → Bool) (l : List α) : l.find? c = (l.filter c).head? := by
  rw [List.head?_filter]
theorem nice_encL {xs : List Int} : nice (encL xs) = true := by
  unfold nice SeqAt.shaped encL tI
  simp [PyData.canLay0, PyData.canLayAll0, PyData.depth, PyData.depthAll, lay_ints, depth_ints]
def alikeS (n : Int) : Bool := (shortI n).all fun a => (shortI n).all fun b => PySem.W.alike (encL a) (encL b)
theorem alike_short {n : Int} (h0 : 1 ≤ n) (h1 : n ≤ 4) : alikeS n = true := by
  have : n = 1 ∨ n = 2 ∨ n = 3 ∨ n = 4 := by omega
  rcases this with rfl | rfl | rfl | rfl <;> decide +kernel
theorem gSorted_few {n : Int} (h0 : 1 ≤ n) (h1 : n ≤ 4) (c : List Int → Bool) :
    gSortedG [.ol ((((foundI n n.toNat).filter c).filter fun xs => decide (xs.length < 3)).map encL)] = some (.tmp (.ol (((shortI n).filter c).map encL))) := by
  have hm : ∀ a ∈ (((foundI n n.toNat).filter c).filter fun xs => decide (xs.length < 3)), a ∈ shortI n := fun a ha => by
    obtain ⟨q1, q2⟩ := List.mem_filter.mp ha
    exact (perm_short h0 h1).mem_iff.mp (List.mem_filter.mpr ⟨(List.mem_filter.mp q1).1, q2⟩)
  have fs := few_sorted h0 h1 c
  have al := alike_short h0 h1
  generalize (((foundI n n.toNat).filter c).filter fun xs => decide (xs.length < 3)) = M at *
  have a1 : (M.map encL).all (fun d => (M.map encL).all fun e => PySem.W.alike d e) = true := by
    rw [List.all_eq_true]
    intro d hd
    rw [List.all_eq_true]
    intro e he
    obtain ⟨a, ha, rfl⟩ := List.mem_map.mp hd
    obtain ⟨b, hb, rfl⟩ := List.mem_map.mp he
    exact List.all_eq_true.mp (List.all_eq_true.mp al a (hm a ha)) b (hm b hb)
  have a2 : sortableB (M.map encL) = true := by
    unfold sortableB
    rw [Bool.or_eq_true]
    left
    rw [List.all_eq_true]
    intro d hd
    obtain ⟨a, ha, rfl⟩ := List.mem_map.mp hd
    rfl
  have a3 : (M.map encL).all nice = true := by
    rw [List.all_eq_true]
    intro d hd
    obtain ⟨a, ha, rfl⟩ := List.mem_map.mp hd
    exact nice_encL
  unfold gSortedG
  simp only [asL, a1, a2, a3, and_self, if_true, fs]
end TL

set_option maxRecDepth 100000
namespace TL
open PySem PySem.Spec L2 PL

/-! ### drawn scripts -/
theorem actsS (s2 : Sl) (a b n : Int) (h0 : 1 ≤ n) (h1 : n ≤ 16) (m : Nat) : ∃ (as : List Act) (a' b' : Int), (∀ o ∈ as, GoodAct n o) ∧ as.length ≤ m ∧
    lcLoop 3 [3] (tName 3 3) mYes (mCall 3 [true, false] TL.f__law_step (mCons (mVar 0) (mCons (mVar 1) mNil))) (rangeD 0 m) [bagS a b, .im (.int n), s2, .no]
      = .ok (as.map actD) [bagS a' b', .im (.int n), s2, .no] := by
  let I : En → Prop := fun e => ∃ a b, e = [bagS a b, .im (.int n), s2, .no]
  have hI : ∀ e, I e ↔ ∃ a b, e = [bagS a b, .im (.int n), s2, .no] := fun _ => .rfl
  obtain ⟨ds', rs, E', q1, q2, q3, q4⟩ := lc_inv (np := 3) (vs := [3]) (mt := tName 3 3) (mc := mYes) (me := mCall 3 [true, false] TL.f__law_step (mCons (mVar 0) (mCons (mVar 1) mNil))) (I := I) (R := fun _ y => ∃ o, y = actD o ∧ GoodAct n o) (ds := rangeD 0 m) ((hI _).mpr ⟨a, b, rfl⟩)
    fun d hd E hE => by
      obtain ⟨a1, b1, rfl⟩ := (hI _).mp hE
      obtain ⟨o, a2, b2, g, h4⟩ := step_ex a1 b1 n h0 h1
      have c : callS 3 [true, false] f__law_step [.var 0, .im (.int n)] [bagS a1 b1, .im (.int n), s2, .im d] = .ok (.im (actD o)) _ := callB rfl rfl h4
      refine ⟨[bagS a1 b1, .im (.int n), s2, .im d], true, _, rfl, rfl, (fun h => by cases h), fun _ => ⟨actD o, [bagS a2 b2, .im (.int n), s2, .im d], ?_, ⟨o, rfl, g⟩, (hI _).mpr ⟨a2, b2, rfl⟩⟩⟩
      unfold bagS at *
      try simp at c
      simp [mVar, c]
  obtain ⟨a3, b3, rfl⟩ := (hI _).mp q2
  obtain ⟨as, h1, rfl⟩ : ∃ as : List Act, (∀ o ∈ as, GoodAct n o) ∧ rs = as.map actD := by
    clear q1 q3
    induction q4 with
    | nil => exact ⟨[], fun o h => (by cases h), rfl⟩
    | cons hr _ ih =>
      obtain ⟨o, rfl, g⟩ := hr
      obtain ⟨as, h, rfl⟩ := ih
      exact ⟨o :: as, fun x hx => by
        rcases List.mem_cons.mp hx with e | e
        · rw [e]; exact g
        · exact h x e, rfl⟩
  refine ⟨as, a3, b3, h1, ?_, q1⟩
  have l1 := Paired.len q4
  have l2 := q3.length_le
  rw [rangeD_length] at l2
  rw [List.length_map] at l1
  omega
theorem script_ex (a b n m : Int) (h0 : 1 ≤ n) (h1 : n ≤ 16) (m0 : 0 ≤ m) (m1 : m ≤ 100) : ∃ (as : List Act) (a' b' : Int), (∀ o ∈ as, GoodAct n o) ∧ (as.length : Int) ≤ m ∧
    f__law_script [bagS a b, .im (.int n), .im (.int m)] = .ok (.im (.tuple (as.map actD))) [bagS a' b'] := by
  obtain ⟨q, a2, b2, h5, h6, h7⟩ := take_ex a b (m + 1) (by omega) (by omega)
  have c5 : callS 3 [true, false] f__law_take [.var 0, .im (.int (m + 1))] [bagS a b, .im (.int n), .im (.int m), .no] = .ok (.im (.int q)) [bagS a2 b2, .im (.int n), .im (.int m), .no] := callB rfl rfl h7
  obtain ⟨as, a3, b3, g1, g2, lc⟩ := actsS (.im (.int m)) a2 b2 n h0 h1 q.toNat
  refine ⟨as, a3, b3, g1, by omega, ?_⟩
  have er : q ≤ 1000000 ∧ -1000000 ≤ q := by omega
  unfold f__law_script fnOf m__law_script
  unfold bagS at *
  try simp at c5
  simp [mVar, gAdd, c5, mRng1, er, wipeE, lc, gTuple, items, outsOf]
theorem gIx_acts {as : List Act} {i : Int} {o : Act} (hi : 0 ≤ i) (h : as[i.toNat]? = some o) : L2.atI (as.map actD) i = some (actD o) := by
  have e : i = (i.toNat : Int) := by omega
  rw [e, PL.atI_nat, List.getElem?_map, h]
  rfl
theorem gAdd_acts (xs ys : List Act) (h : xs.length + ys.length ≤ 1000) : gAdd (.im (.tuple (xs.map actD))) (.im (.tuple (ys.map actD))) = some (.im (.tuple ((xs ++ ys).map actD))) := by
  have z : (xs.map actD).length + (ys.map actD).length ≤ sizeLine := by rw [List.length_map, List.length_map, sizeLine_eq]; omega
  unfold gAdd
  dsimp only
  rw [if_pos z, List.map_append]
theorem lay_acts : ∀ as : List Act, PyData.canLayAll0 (as.map actD) = true
  | [] => by simp [PyData.canLayAll0]
  | x :: r => by
    rw [List.map_cons, PyData.canLayAll0, lay_acts r]
    unfold actD tI
    simp [PyData.canLay0, PyData.canLayAll0, lay_ints]
    unfold wordS
    split <;> decide +kernel
theorem depth_acts : ∀ as : List Act, PyData.depthAll (as.map actD) ≤ 2
  | [] => by simp [PyData.depthAll]
  | x :: r => by
    have := depth_acts r
    rw [List.map_cons, PyData.depthAll]
    unfold actD tI at *
    simp [PyData.depth, PyData.depthAll, depth_ints]
    omega
theorem nice_acts (as : List Act) : nice (.tuple (as.map actD)) = true := by
  have h := depth_acts as
  unfold nice SeqAt.shaped
  rw [PyData.canLay0, lay_acts, PyData.depth]
  simp
  omega
theorem gEq_acts (as : List Act) : gEq (.im (.tuple (as.map actD))) (.im (.tuple [])) = some (.im (.bool (decide (as = [])))) := by
  unfold gEq
  simp only [content, nice_acts, nice_nil, and_self, if_true]
  cases as with
  | nil => rfl
  | cons x r => simp [PyData.eqv, PyData.eqvAll]
theorem other_ex (a b n : Int) (as : List Act) (h0 : 1 ≤ n) (h1 : n ≤ 16) (hs : ∀ o ∈ as, GoodAct n o) (hl : as.length ≤ 5) : ∃ (bs : List Act) (a' b' : Int), (∀ o ∈ bs, GoodAct n o) ∧ bs.length ≤ 40 ∧
    f__law_other [bagS a b, .im (.int n), .im (.tuple (as.map actD))] = .ok (.im (.tuple (bs.map actD))) [bagS a' b'] := by
  obtain ⟨w, a1, b1, w0, w1, h2⟩ := take_ex a b 6 (by decide) (by decide)
  have c1 : callS 3 [true, false] f__law_take [.var 0, .im (.int 6)] [bagS a b, .im (.int n), .im (.tuple (as.map actD)), .no, .no, .no, .no, .no] = .ok (.im (.int w)) [bagS a1 b1, .im (.int n), .im (.tuple (as.map actD)), .no, .no, .no, .no, .no] := callB rfl rfl h2
  have ge := gEq_acts as
  by_cases hz : as = [] ∨ w = 0
  · obtain ⟨bs, a2, b2, g1, g2, h3⟩ := script_ex a1 b1 n 3 h0 h1 (by decide) (by decide)
    have c2 : callS 3 [true, false, false] f__law_script [.var 0, .im (.int n), .im (.int 3)] [bagS a1 b1, .im (.int n), .im (.tuple (as.map actD)), .im (.int w), .no, .no, .no, .no] = .ok (.im (.tuple (bs.map actD))) [bagS a2 b2, .im (.int n), .im (.tuple (as.map actD)), .im (.int w), .no, .no, .no, .no] := callB3 rfl rfl h3
    refine ⟨bs, a2, b2, g1, by omega, ?_⟩
    unfold f__law_other fnOf m__law_other
    generalize bs.map actD = B at *
    generalize as.map actD = W at *
    unfold bagS at *
    try simp at c1 c2
    rcases hz with hz | hz
    · simp [hz] at ge
      simp [mVar, c1, sStore, setSl, Sl.own, ge, opv2, view, c2, outsOf, truS]
    · by_cases he : as = []
      · simp [he] at ge
        simp [mVar, c1, sStore, setSl, Sl.own, ge, opv2, view, c2, outsOf, truS]
      · simp [he] at ge
        subst hz
        simp [mVar, c1, sStore, setSl, Sl.own, ge, opv2, view, c2, outsOf, truS]
  · rw [not_or] at hz
    obtain ⟨hz, hw⟩ := hz
    simp [hz] at ge
    have hp : 0 < as.length := List.length_pos_iff.mpr hz
    obtain ⟨i, a2, b2, i0, i1, h3⟩ := take_ex a1 b1 as.length (by omega) (by omega)
    have c2 : callS 3 [true, false] f__law_take [.var 0, .im (.int as.length)] [bagS a1 b1, .im (.int n), .im (.tuple (as.map actD)), .im (.int w), .no, .no, .no, .no] = .ok (.im (.int i)) [bagS a2 b2, .im (.int n), .im (.tuple (as.map actD)), .im (.int w), .no, .no, .no, .no] := callB rfl rfl h3
    have lm : (as.map actD).length = as.length := List.length_map ..
    have e1 := cut_to (as.map actD) i (by omega) (by omega)
    have e2 := cut_from (as.map actD) i (by omega) (by omega)
    have e3 := cut_from (as.map actD) (i + 1) (by omega) (by omega)
    rw [← List.map_take] at e1
    rw [← List.map_drop] at e2 e3
    rw [show (i + 1).toNat = i.toNat + 1 by omega] at e3
    obtain ⟨o, ho⟩ : ∃ o, as[i.toNat]? = some o := ⟨_, List.getElem?_eq_getElem (by omega)⟩
    have gi := gIx_acts i0 ho
    have go := hs o (List.mem_of_getElem? ho)
    have mt : ∀ x ∈ as.take i.toNat, GoodAct n x := fun x hx => hs x (List.mem_of_mem_take hx)
    have md : ∀ k, ∀ x ∈ as.drop k, GoodAct n x := fun k x hx => hs x (List.mem_of_mem_drop hx)
    have lt : (as.take i.toNat).length ≤ 5 := by rw [List.length_take]; omega
    have ld : ∀ k, (as.drop k).length ≤ 5 := fun k => by rw [List.length_drop]; omega
    have ld1 := ld i.toNat
    have ld2 := ld (i.toNat + 1)
    have md1 := md i.toNat
    have md2 := md (i.toNat + 1)
    clear ld md
    generalize as.take i.toNat = A at *
    generalize as.drop i.toNat = C at *
    generalize as.drop (i.toNat + 1) = E at *
    have hw' : w = 1 ∨ w = 2 ∨ w = 3 ∨ w = 4 ∨ w = 5 := by omega
    rcases hw' with rfl | rfl | rfl | rfl | rfl
    · refine ⟨A ++ E, a2, b2, fun x hx => (List.mem_append.mp hx).elim (mt x) (md2 x), by rw [List.length_append]; omega, ?_⟩
      have g1 := gAdd_acts A E (by omega)
      unfold f__law_other fnOf m__law_other
      generalize (A ++ E).map actD = R at *
      generalize A.map actD = A' at *
      generalize E.map actD = E' at *
      generalize as.map actD = W at *
      unfold bagS at *
      try simp at c1 c2
      simp [mVar, c1, sStore, setSl, Sl.own, ge, opv2, view, lm, c2, outsOf, truS, mSlice, mPart, mNoPart, e1, e3, g1]
    · refine ⟨A ++ [o] ++ C, a2, b2, fun x hx => ?_, by simp; omega, ?_⟩
      · rcases List.mem_append.mp hx with q | q
        · exact (List.mem_append.mp q).elim (mt x) fun q => by rw [List.mem_singleton.mp q]; exact go
        · exact md1 x q
      have g1 : gAdd (.im (.tuple (A.map actD))) (.im (.tuple [actD o])) = some (.im (.tuple ((A ++ [o]).map actD))) := gAdd_acts A [o] (by simp; omega)
      have g2 := gAdd_acts (A ++ [o]) C (by simp; omega)
      unfold f__law_other fnOf m__law_other
      generalize (A ++ [o] ++ C).map actD = R at *
      generalize (A ++ [o]).map actD = Q at *
      generalize A.map actD = A' at *
      generalize C.map actD = E' at *
      generalize as.map actD = W at *
      unfold bagS at *
      try simp at c1 c2
      simp [mVar, c1, sStore, setSl, Sl.own, ge, opv2, view, lm, c2, outsOf, truS, mSlice, mPart, mNoPart, e1, e2, gi, g1, g2]
    · let B : List Act := o.items.map fun x => ⟨o.add, [x]⟩
      have hB : B.map actD = o.items.map fun x => .tuple [.str (wordS o.add), .tuple [.int x]] := by
        show (o.items.map _).map actD = _
        rw [List.map_map]
        rfl
      have gB : ∀ x ∈ B, GoodAct n x := fun x hx => by
        obtain ⟨z, hz, rfl⟩ := List.mem_map.mp hx
        exact ⟨by simp, fun y hy => by rw [List.mem_singleton.mp hy]; exact go.mem z hz, by simp⟩
      have lB : B.length ≤ 16 := by show (o.items.map _).length ≤ 16; rw [List.length_map]; exact go.len h1
      have lc := lc_map (np := 3) (vs := [7]) (mt := tName 3 7) (mc := mYes) (me := mTup 3 (mCons (mVar 5) (mCons (mTup 3 (mCons (mVar 7) mNil)) mNil)))
        (E := [bagS a2 b2, .im (.int n), .im (.tuple (as.map actD)), .im (.int 3), .im (.int i), .im (.str (wordS o.add)), .im (tI o.items), .no]) PyData.int (fun _ => true) (fun x => .tuple [.str (wordS o.add), .tuple [.int x]]) (L := o.items) fun x _ => by
          refine ⟨[bagS a2 b2, .im (.int n), .im (.tuple (as.map actD)), .im (.int 3), .im (.int i), .im (.str (wordS o.add)), .im (tI o.items), .im (.int x)], [bagS a2 b2, .im (.int n), .im (.tuple (as.map actD)), .im (.int 3), .im (.int i), .im (.str (wordS o.add)), .im (tI o.items), .im (.int x)], rfl, rfl, fun _ => ⟨?_, rfl⟩, rfl⟩
          simp [mVar]
      rw [List.filter_eq_self.mpr fun _ _ => rfl, ← hB] at lc
      refine ⟨A ++ B ++ E, a2, b2, fun x hx => ?_, by rw [List.length_append, List.length_append]; omega, ?_⟩
      · rcases List.mem_append.mp hx with q | q
        · exact (List.mem_append.mp q).elim (mt x) (gB x)
        · exact md2 x q
      have g1 := gAdd_acts A B (by omega)
      have g2 := gAdd_acts (A ++ B) E (by rw [List.length_append]; omega)
      unfold f__law_other fnOf m__law_other
      generalize (A ++ B ++ E).map actD = R at *
      generalize (A ++ B).map actD = Q at *
      generalize B.map actD = B' at *
      generalize A.map actD = A' at *
      generalize E.map actD = E' at *
      generalize as.map actD = W at *
      unfold bagS actD at *
      unfold tI at *
      try simp at c1 c2 lc
      simp [mVar, c1, sStore, setSl, Sl.own, ge, opv2, view, lm, c2, outsOf, truS, mSlice, mPart, mNoPart, e1, e3, gi, g1, g2, tTuple, tsCons, tsNil, tName, wipeE, lc, gTuple, items]
    · obtain ⟨p, a3, b3, gp, h4⟩ := step_ex a2 b2 n h0 h1
      have c3 : callS 3 [true, false] f__law_step [.var 0, .im (.int n)] [bagS a2 b2, .im (.int n), .im (.tuple (as.map actD)), .im (.int 4), .im (.int i), .no, .no, .no] = .ok (.im (actD p)) [bagS a3 b3, .im (.int n), .im (.tuple (as.map actD)), .im (.int 4), .im (.int i), .no, .no, .no] := callB rfl rfl h4
      refine ⟨A ++ [p] ++ E, a3, b3, fun x hx => ?_, by simp; omega, ?_⟩
      · rcases List.mem_append.mp hx with q | q
        · exact (List.mem_append.mp q).elim (mt x) fun q => by rw [List.mem_singleton.mp q]; exact gp
        · exact md2 x q
      have g1 : gAdd (.im (.tuple (A.map actD))) (.im (.tuple [actD p])) = some (.im (.tuple ((A ++ [p]).map actD))) := gAdd_acts A [p] (by simp; omega)
      have g2 := gAdd_acts (A ++ [p]) E (by simp; omega)
      unfold f__law_other fnOf m__law_other
      generalize (A ++ [p] ++ E).map actD = R at *
      generalize (A ++ [p]).map actD = Q at *
      generalize A.map actD = A' at *
      generalize E.map actD = E' at *
      generalize as.map actD = W at *
      generalize actD p = P at *
      unfold bagS at *
      try simp at c1 c2 c3
      simp [mVar, c1, sStore, setSl, Sl.own, ge, opv2, view, lm, c2, c3, outsOf, truS, mSlice, mPart, mNoPart, e1, e3, g1, g2]
    · refine ⟨C ++ A, a2, b2, fun x hx => (List.mem_append.mp hx).elim (md1 x) (mt x), by rw [List.length_append]; omega, ?_⟩
      have g1 := gAdd_acts C A (by omega)
      unfold f__law_other fnOf m__law_other
      generalize (C ++ A).map actD = R at *
      generalize A.map actD = A' at *
      generalize C.map actD = E' at *
      generalize as.map actD = W at *
      unfold bagS at *
      try simp at c1 c2
      simp [mVar, c1, sStore, setSl, Sl.own, ge, opv2, view, lm, c2, outsOf, truS, mSlice, mPart, mNoPart, e1, e2, g1]
end TL

set_option maxRecDepth 100000
namespace PL
open PySem PySem.Spec L2

/-! ### what holds behind a step -/
def wpM {α : Type} (r : Res α) (Q : α → En → Prop) : Prop := match r with
  | .ok a e => Q a e
  | _ => False
def wpR (r : SR) (N : En → Prop) (R : Sl → En → Prop) : Prop := match r with
  | .nx e => N e
  | .rt s e => R s e
  | _ => False
def wpF (r : FR) (Q : Sl → List Sl → Prop) : Prop := match r with
  | .ok s o => Q s o
  | _ => False
section
variable {α β : Type} {Q : α → En → Prop} {N N' : En → Prop} {R R' : Sl → En → Prop} {F : Sl → List Sl → Prop}
@[simp] theorem wpM_ok (a : α) (e : En) : wpM (.ok a e) Q = Q a e := rfl
@[simp] theorem wpM_stuck : wpM (.stuck : Res α) Q = False := rfl
@[simp] theorem wpM_exn (c : Str) (e : En) : wpM (.exn c e : Res α) Q = False := rfl
@[simp] theorem wpM_bind (r : Res β) (f : β → M α) : wpM (r.bind f) Q = wpM r fun a e => wpM (f a e) Q := by cases r <;> rfl
@[simp] theorem wpM_bindN (r : Res β) (f : β → M α) : wpM (r.bindN f) Q = wpM r fun a e => wpM (f a e) Q := by cases r <;> rfl
@[simp] theorem wpR_nx (e : En) : wpR (.nx e) N R = N e := rfl
@[simp] theorem wpR_rt (s : Sl) (e : En) : wpR (.rt s e) N R = R s e := rfl
@[simp] theorem wpR_stuck : wpR .stuck N R = False := rfl
@[simp] theorem wpR_exn (c : Str) (e : En) : wpR (.exn c e) N R = False := rfl
@[simp] theorem wpR_toSR (r : Res β) (f : β → En → SR) : wpR (r.toSR f) N R = wpM r fun a e => wpR (f a e) N R := by cases r <;> rfl
@[simp] theorem wpR_seq (r : SR) (f : MS) : wpR (r.seq f) N R = wpR r (fun e => wpR (f e) N R) R := by cases r <;> rfl
@[simp] theorem wpF_ok (s : Sl) (o : List Sl) : wpF (.ok s o) F = F s o := rfl
@[simp] theorem wpF_stuck : wpF .stuck F = False := rfl
@[simp] theorem wpF_exn (c : Str) (o : List Sl) : wpF (.exn c o) F = False := rfl
theorem wpM_ite (k : Bool) (x y : Res α) : wpM (match k with | true => x | false => y) Q = ((k = true → wpM x Q) ∧ (k = false → wpM y Q)) := by cases k <;> simp
theorem wpR_ite (k : Bool) (x y : SR) : wpR (match k with | true => x | false => y) N R = ((k = true → wpR x N R) ∧ (k = false → wpR y N R)) := by cases k <;> simp
theorem wpM_mono {r : Res α} {Q' : α → En → Prop} (h : wpM r Q) (k : ∀ a e, Q a e → Q' a e) : wpM r Q' := by
  cases r with
  | ok a e => exact k a e h
  | exn c e => exact h
  | stuck => exact h
theorem wpR_mono {r : SR} (h : wpR r N R) (k : ∀ e, N e → N' e) (k2 : ∀ s e, R s e → R' s e) : wpR r N' R' := by
  cases r with
  | nx e => exact k e h
  | rt s e => exact k2 s e h
  | bk e => exact h
  | ct e => exact h
  | exn c e => exact h
  | stuck => exact h
theorem wpF_mono {r : FR} {F' : Sl → List Sl → Prop} (h : wpF r F) (k : ∀ s o, F s o → F' s o) : wpF r F' := by
  cases r with
  | ok s o => exact k s o h
  | exn c e => exact h
  | stuck => exact h
theorem wpM_of {r : Res α} {a : α} {e : En} (h : r = .ok a e) (q : Q a e) : wpM r Q := by rw [h]; exact q
theorem wpM_eq {r : Res α} (h : wpM r Q) : ∃ a e, r = .ok a e ∧ Q a e := by
  cases r with
  | ok a e => exact ⟨a, e, rfl, h⟩
  | exn c e => exact h.elim
  | stuck => exact h.elim
theorem wpF_eq {r : FR} (h : wpF r F) : ∃ s o, r = .ok s o ∧ F s o := by
  cases r with
  | ok s o => exact ⟨s, o, rfl, h⟩
  | exn c e => exact h.elim
  | stuck => exact h.elim
theorem eq_of_wpF {r : FR} {s : Sl} {o : List Sl} (h : wpF r fun s' o' => s' = s ∧ o' = o) : r = .ok s o := by
  obtain ⟨s', o', e, rfl, rfl⟩ := wpF_eq h
  exact e
theorem wpR_nxt {r : SR} (h : wpR r N fun _ _ => False) : ∃ e, r = .nx e ∧ N e := by
  cases r with
  | nx e => exact ⟨e, rfl, h⟩
  | rt s e => exact h.elim
  | bk e => exact h.elim
  | ct e => exact h.elim
  | exn c e => exact h.elim
  | stuck => exact h.elim
theorem wpF_fn (fl : List Bool) (n : Nat) (ms : MS) (as : List Sl) : wpF (fnOf fl n ms as) F = wpR (ms (as ++ List.replicate (n - fl.length) Sl.no)) (fun e => F (.im .none) (outsOf fl e)) (fun s e => F s (outsOf fl e)) := by
  unfold fnOf
  cases ms (as ++ List.replicate (n - fl.length) Sl.no) <;> rfl
end

/-! ### calls -/
def retR (s : Sl) (e : En) : Res Rf := match retRf s with
  | some z => .ok z e
  | none => .stuck
@[simp] theorem retR_im (d : D) (e : En) : retR (.im d) e = .ok (.im d) e := rfl
@[simp] theorem retR_ol (ds : List D) (e : En) : retR (.ol ds) e = .ok (.tmp (.ol ds)) e := rfl
def callR (fr : FR) (fl : List Bool) (xs : List Rf) (env : En) : Res Rf := match fr with
  | .ok r outs => retR r (writeBack fl xs outs env)
  | .exn c outs => .exn c (writeBack fl xs outs env)
  | .stuck => .stuck
theorem callS_eq (np : Nat) (fl : List Bool) (f : Fn) (xs : List Rf) (env : En) : callS np fl f xs env = (shareArgs np fl xs env).bind fun ss env1 => if (ioVars fl xs).Nodup then (match fillArgs env1 fl xs ss with
  | some as => callR (f as) fl xs env1
  | none => .stuck) else .stuck := by
  unfold callS
  have key : ∀ (ss : List Sl) (env1 : En), (if (ioVars fl xs).Nodup then (match fillArgs env1 fl xs ss with
    | some as => (match f as with
      | .ok r outs => (match retRf r with
        | some z => Res.ok z (writeBack fl xs outs env1)
        | none => .stuck)
      | .exn c outs => .exn c (writeBack fl xs outs env1)
      | .stuck => .stuck)
    | none => .stuck) else .stuck) = if (ioVars fl xs).Nodup then (match fillArgs env1 fl xs ss with
    | some as => callR (f as) fl xs env1
    | none => .stuck) else .stuck := fun ss env1 => by
    by_cases hn : (ioVars fl xs).Nodup
    · rw [if_pos hn, if_pos hn]
      cases fillArgs env1 fl xs ss with
      | none => rfl
      | some as =>
        dsimp only
        cases f as with
        | ok r outs => unfold callR retR; cases retRf r <;> rfl
        | exn c o => rfl
        | stuck => rfl
    · rw [if_neg hn, if_neg hn]
  exact congrArg (fun g => (shareArgs np fl xs env).bind g) (funext fun ss => funext fun env1 => key ss env1)
@[simp] theorem callR_ok (r : Sl) (outs : List Sl) (fl : List Bool) (xs : List Rf) (env : En) : callR (.ok r outs) fl xs env = retR r (writeBack fl xs outs env) := rfl
@[simp] theorem callR_exn (c : Str) (outs : List Sl) (fl : List Bool) (xs : List Rf) (env : En) : callR (.exn c outs) fl xs env = .exn c (writeBack fl xs outs env) := rfl
@[simp] theorem wp_callR (fr : FR) (fl : List Bool) (xs : List Rf) (env : En) (Q : Rf → En → Prop) : wpM (callR fr fl xs env) Q = wpF fr fun r outs => wpM (retR r (writeBack fl xs outs env)) Q := by cases fr <;> rfl
@[simp] theorem share_im (np : Nat) (fl : List Bool) (d : D) (xs : List Rf) (env : En) : shareArgs np (false :: fl) (.im d :: xs) env = (shareArgs np fl xs env).bind fun ss env => .ok (.im d :: ss) env := rfl
@[simp] theorem share_tmp (np : Nat) (fl : List Bool) (ds : List D) (xs : List Rf) (env : En) : shareArgs np (false :: fl) (.tmp (.ol ds) :: xs) env = (shareArgs np fl xs env).bind fun ss env => .ok (.im (.list ds) :: ss) env := rfl
@[simp] theorem share_var (np j : Nat) (fl : List Bool) (xs : List Rf) (env : En) : shareArgs np (false :: fl) (.var j :: xs) env = (toI np (.var j) env).bind fun d e => (shareArgs np fl xs e).bind fun ss env => .ok (.im d :: ss) env := rfl
@[simp] theorem share_io (np : Nat) (fl : List Bool) (x : Rf) (xs : List Rf) (env : En) : shareArgs np (true :: fl) (x :: xs) env = (shareArgs np fl xs env).bind fun ss env => .ok (.no :: ss) env := by cases x <;> rfl
@[simp] theorem share_nil (np : Nat) (env : En) : shareArgs np [] [] env = .ok [] env := rfl
theorem toI_own {np j : Nat} {env : En} {ds : List D} (h : env[j]? = some (.ol ds)) (hn : np ≤ j) : toI np (.var j) env = .ok (.list ds) (env.set j (.im (.list ds))) := by
  unfold toI
  dsimp only
  rw [h]
  simp [hn]
theorem toI_shr {np j : Nat} {env : En} {d : D} (h : env[j]? = some (.im d)) : toI np (.var j) env = .ok d env := by
  unfold toI
  dsimp only
  rw [h]

/-! ### loops -/
section
variable {α σ : Type} {N : En → Prop} {R : Sl → En → Prop} {mt : MT} {body : MS}
theorem wp_loop (I : En → Prop) {ds : List D} {e : En} (h0 : I e) (hs : ∀ d ∈ ds, ∀ e, I e → ∃ e1, mt d e = some e1 ∧ wpR (body e1) I R) (hd : ∀ e, I e → N e) : wpR (loopS mt body ds e) N R := by
  induction ds generalizing e with
  | nil => exact hd e h0
  | cons d ds ih =>
    obtain ⟨e1, h1, h2⟩ := hs d List.mem_cons_self e h0
    unfold loopS
    rw [h1]
    dsimp only
    generalize body e1 = r at h2
    cases r with
    | nx e2 => exact ih h2 fun d hd => hs d (List.mem_cons_of_mem _ hd)
    | rt s e2 => exact h2
    | bk e2 => exact h2.elim
    | ct e2 => exact h2.elim
    | exn c e2 => exact h2.elim
    | stuck => exact h2.elim
/-- a loop that folds a state -/
theorem wp_fold (enc : α → D) (E : σ → Sl → En) (f : σ → α → σ) (P : σ → Prop) {L : List α} {st : σ} {t : Sl} (h0 : P st) (hs : ∀ st t x, x ∈ L → P st → P (f st x) ∧ ∃ e1, mt (enc x) (E st t) = some e1 ∧ wpR (body e1) (fun e => ∃ t', e = E (f st x) t') R)
    (hd : ∀ t, P (L.foldl f st) → N (E (L.foldl f st) t)) : wpR (loopS mt body (L.map enc) (E st t)) N R := by
  induction L generalizing st t with
  | nil => exact hd t h0
  | cons x L ih =>
    obtain ⟨p, e1, h1, h2⟩ := hs st t x List.mem_cons_self h0
    rw [List.map_cons]
    unfold loopS
    rw [h1]
    dsimp only
    generalize body e1 = r at h2
    cases r with
    | nx e2 =>
      obtain ⟨t', rfl⟩ := h2
      exact ih p (fun st t x hx => hs st t x (List.mem_cons_of_mem _ hx)) hd
    | rt s e2 => exact h2
    | bk e2 => exact h2.elim
    | ct e2 => exact h2.elim
    | exn c e2 => exact h2.elim
    | stuck => exact h2.elim
/-- a loop, turn by turn -/
theorem wp_ix (I : Nat → En → Prop) {ds : List D} {e : En} (h0 : I 0 e) (hs : ∀ (i : Nat) d e, ds[i]? = some d → I i e → ∃ e1, mt d e = some e1 ∧ wpR (body e1) (I (i + 1)) R) (hd : ∀ e, I ds.length e → N e) : wpR (loopS mt body ds e) N R := by
  have go : ∀ (ds : List D) (k : Nat) (e : En), I k e → (∀ (i : Nat) d e, ds[i]? = some d → I (k + i) e → ∃ e1, mt d e = some e1 ∧ wpR (body e1) (I (k + i + 1)) R) → (∀ e, I (k + ds.length) e → N e) → wpR (loopS mt body ds e) N R := by
    intro ds
    induction ds with
    | nil => intro k e h _ hd; exact hd e h
    | cons d ds ih =>
      intro k e h hs hd
      obtain ⟨e1, h1, h2⟩ := hs 0 d e rfl h
      unfold loopS
      rw [h1]
      dsimp only
      generalize body e1 = r at h2
      cases r with
      | nx e2 =>
        refine ih (k + 1) e2 h2 (fun i d e hi he => ?_) fun e he => hd e (by rw [List.length_cons, show k + (ds.length + 1) = k + 1 + ds.length by omega]; exact he)
        have := hs (i + 1) d e (by simpa using hi) (by rw [show k + (i + 1) = k + 1 + i by omega]; exact he)
        rw [show k + (i + 1) + 1 = k + 1 + i + 1 by omega] at this
        exact this
      | rt s e2 => exact h2
      | bk e2 => exact h2.elim
      | ct e2 => exact h2.elim
      | exn c e2 => exact h2.elim
      | stuck => exact h2.elim
  refine go ds 0 e h0 (fun i d e hi he => ?_) fun e he => hd e (by rw [Nat.zero_add] at he; exact he)
  rw [Nat.zero_add] at he ⊢
  exact hs i d e hi he
end
/-! ### comprehensions -/
section
variable {α : Type} {np : Nat} {vs : List Nat} {mt : MT} {mc : M Bool} {me : M Rf} {Q : List D → En → Prop}
/-- the block's parts leave the frame -/
theorem wp_lc (enc : α → D) (c : α → Bool) (g : α → D) {L : List α} {E : En} (h : ∀ x ∈ L, ∃ e1, mt (enc x) E = some e1 ∧ wipeE vs e1 = E ∧ mc e1 = .ok (c x) e1 ∧ (c x = true → wpM (me e1) fun y e => toI np y e = .ok (g x) e1)) (k : Q ((L.filter c).map g) E) : wpM (lcLoop np vs mt mc me (L.map enc) E) Q := by
  have q := TL.lc_map (np := np) (vs := vs) (mt := mt) (mc := mc) (me := me) (E := E) enc c g (L := L) fun x hx => by
    obtain ⟨e1, h1, h2, h3, h4⟩ := h x hx
    refine ⟨e1, e1, h1, h3, fun hc => ⟨?_, h2⟩, h2⟩
    obtain ⟨y, e, h5, h6⟩ := wpM_eq (h4 hc)
    rw [h5, Res.bindN_ok, h6]
  rw [q]
  exact k
/-- no test -/
theorem wp_lcT (enc : α → D) (g : α → D) {L : List α} {E : En} (h : ∀ x ∈ L, ∃ e1, mt (enc x) E = some e1 ∧ wipeE vs e1 = E ∧ wpM (me e1) fun y e => toI np y e = .ok (g x) e1) (k : Q (L.map g) E) : wpM (lcLoop np vs mt mYes me (L.map enc) E) Q :=
  wp_lc enc (fun _ => true) g (fun x hx => by
    obtain ⟨e1, h1, h2, h3⟩ := h x hx
    exact ⟨e1, h1, h2, rfl, fun _ => h3⟩) (by rw [List.filter_eq_self.mpr fun _ _ => rfl]; exact k)
/-- with a frame that may change -/
theorem wp_lcI (I : En → Prop) (P : D → D → Prop) {ds : List D} {E : En} (hI : I E) (h : ∀ d ∈ ds, ∀ E, I E → ∃ e1, mt d E = some e1 ∧ wpM (mc e1) fun k e2 => (k = false → I (wipeE vs e2)) ∧ (k = true → wpM (me e2) fun y e => wpM (toI np y e) fun d' e3 => P d d' ∧ I (wipeE vs e3)))
    (k : ∀ ds' rs E', ds'.Sublist ds → Paired P ds' rs → I E' → Q rs E') : wpM (lcLoop np vs mt mc me ds E) Q := by
  obtain ⟨ds', rs, E', q1, q2, q3, q4⟩ := lc_inv (np := np) (vs := vs) (mt := mt) (mc := mc) (me := me) (I := I) (R := P) hI fun d hd E hE => by
    obtain ⟨e1, h1, h2⟩ := h d hd E hE
    obtain ⟨k, e2, h3, h4, h5⟩ := wpM_eq h2
    refine ⟨e1, k, e2, h1, h3, h4, fun hk => ?_⟩
    obtain ⟨y, e, h6, h7⟩ := wpM_eq (h5 hk)
    obtain ⟨d', e3, h8, h9, h10⟩ := wpM_eq h7
    exact ⟨d', e3, by rw [h6, Res.bindN_ok, h8], h9, h10⟩
  rw [q1]
  exact k ds' rs E' q3 q4 q2
end
@[simp] theorem ap_setI (np i : Nat) (m : M Rf) (env : En) : sSetI np i m env = (m env).toSR fun x e => (toI np x e).toSR fun d e => sStore np i (.im d) e := setI_eq np i m env
@[simp] theorem ap_enum (np : Nat) (m : M Rf) (env : En) : mEnum np m env = (m env).bind fun x e => (toI np x e).bind fun d e2 => (match d with
  | .list ds => .ok (enumD ds) e2
  | .tuple ds => .ok (enumD ds) e2
  | _ => .stuck) := rfl
end PL

set_option maxRecDepth 100000
namespace PL
open PySem PySem.Spec L2
open PySem.W (Datum Tup)

/-! ### slots -/
def varG (i : Nat) (o : Option Sl) (env : En) : Res Rf := match o with
  | none => .stuck
  | some .no => .stuck
  | some (.im d) => .ok (.im d) env
  | some _ => .ok (.var i) env
@[simp high] theorem ap_varG (i : Nat) (env : En) : mVar i env = varG i env[i]? env := by
  unfold mVar varG
  rfl
@[simp] theorem varG_im (i : Nat) (d : D) (env : En) : varG i (some (.im d)) env = .ok (.im d) env := rfl
@[simp] theorem varG_ol (i : Nat) (ds : List D) (env : En) : varG i (some (.ol ds)) env = .ok (.var i) env := rfl
@[simp] theorem varG_bag (i : Nat) (a b : Int) (env : En) : varG i (some (TL.bagS a b)) env = .ok (.var i) env := rfl
def toIG (np j : Nat) (o : Option Sl) (env : En) : Res D := match o with
  | some (.im d) => .ok d env
  | some (.ol ds) => if np ≤ j then .ok (.list ds) (env.set j (.im (.list ds))) else .stuck
  | some (.odk kvs) => if np ≤ j then .ok (dkD kvs) (env.set j (.im (dkD kvs))) else .stuck
  | some (.odt kvs) => if np ≤ j then .ok (dtD kvs) (env.set j (.im (dtD kvs))) else .stuck
  | _ => .stuck
@[simp high] theorem toI_varG (np j : Nat) (env : En) : toI np (.var j) env = toIG np j env[j]? env := rfl
@[simp] theorem toIG_im (np j : Nat) (d : D) (env : En) : toIG np j (some (.im d)) env = .ok d env := rfl
@[simp] theorem toIG_ol (np j : Nat) (ds : List D) (env : En) (h : np ≤ j) : toIG np j (some (.ol ds)) env = .ok (.list ds) (env.set j (.im (.list ds))) := if_pos h
def viewG (o : Option Sl) : Option Sl := match o with
  | some .no => none
  | x => x
@[simp high] theorem view_varG (env : En) (j : Nat) : view env (.var j) = viewG env[j]? := rfl
@[simp] theorem viewG_im (d : D) : viewG (some (.im d)) = some (.im d) := rfl
@[simp] theorem viewG_ol (ds : List D) : viewG (some (.ol ds)) = some (.ol ds) := rfl
def ownG (o : Option Sl) : Option Sl := match o with
  | some s => if s.own = true then some s else none
  | none => none
@[simp high] theorem ownOf_varG (env : En) (j : Nat) : ownOf env (.var j) = ownG env[j]? := rfl
@[simp] theorem ownG_ol (ds : List D) : ownG (some (.ol ds)) = some (.ol ds) := rfl
@[simp] theorem ownG_bag (a b : Int) : ownG (some (TL.bagS a b)) = some (TL.bagS a b) := rfl
def okR (o : Option Rf) (env : En) : Res Rf := match o with
  | some z => .ok z env
  | none => .stuck
@[simp] theorem okR_some (z : Rf) (env : En) : okR (some z) env = .ok z env := rfl
def opG (g : Sl → Sl → Option Rf) (s t : Option Sl) (env : En) : Res Rf := match s, t with
  | some a, some b => okR (g a b) env
  | _, _ => .stuck
@[simp high] theorem ap_opG (g : Sl → Sl → Option Rf) (x y : Rf) (env : En) : opv2 g x y env = opG g (view env x) (view env y) env := by
  unfold opv2 opG okR
  rfl
@[simp] theorem opG_some (g : Sl → Sl → Option Rf) (a b : Sl) (env : En) : opG g (some a) (some b) env = okR (g a b) env := rfl
@[simp high] theorem store_new (np i : Nat) (s : Sl) (env : En) (h : np ≤ i) (hl : i < env.length) : sStore np i s env = .nx (env.set i s) := by
  unfold sStore setSl
  rw [List.getElem?_eq_getElem hl]
  dsimp only
  rw [if_neg (by omega)]
theorem store_par {np i : Nat} {s : Sl} {d : D} {env : En} (h : env[i]? = some (.im d)) : sStore np i s env = .nx (env.set i s) := by
  unfold sStore setSl
  rw [h]
  rfl
@[simp high] theorem setSl_new (np i : Nat) (s : Sl) (env : En) (h : np ≤ i) (hl : i < env.length) : setSl np i s env = some (env.set i s) := by
  unfold setSl
  rw [List.getElem?_eq_getElem hl]
  dsimp only
  rw [if_neg (by omega)]
/-! ### parts by name -/
def seqR (d : D) (e : En) : Res (List D) := match d with
  | .list ds => .ok ds e
  | .tuple ds => .ok ds e
  | _ => .stuck
@[simp high] theorem ap_seqW (np : Nat) (m : M Rf) (env : En) : mSeq np m env = (m env).bind fun x e => (toI np x e).bind fun d e2 => seqR d e2 := rfl
@[simp] theorem seqR_tI (xs : List Int) (e : En) : seqR (tI xs) e = .ok (xs.map .int) e := rfl
@[simp] theorem seqR_list (ds : List D) (e : En) : seqR (.list ds) e = .ok ds e := rfl
@[simp] theorem seqR_tup (ds : List D) (e : En) : seqR (.tuple ds) e = .ok ds e := rfl
def enumR (d : D) (e : En) : Res (List D) := match d with
  | .list ds => .ok (enumD ds) e
  | .tuple ds => .ok (enumD ds) e
  | _ => .stuck
@[simp high] theorem ap_enumW (np : Nat) (m : M Rf) (env : En) : mEnum np m env = (m env).bind fun x e => (toI np x e).bind fun d e2 => enumR d e2 := rfl
@[simp] theorem enumR_tI (xs : List Int) (e : En) : enumR (tI xs) e = .ok (enumD (xs.map .int)) e := rfl
@[simp] theorem enumR_list (ds : List D) (e : En) : enumR (.list ds) e = .ok (enumD ds) e := rfl
@[simp] theorem enumR_tup (ds : List D) (e : En) : enumR (.tuple ds) e = .ok (enumD ds) e := rfl
def sliceR (v : Option Sl) (lo hi : Option Int) (e : En) : Res Rf := match v with
  | some (.im (.tuple ds)) => .ok (.im (.tuple (cutD ds lo hi))) e
  | some s => (match asL s with
    | some ds => .ok (.tmp (.ol (cutD ds lo hi))) e
    | none => .stuck)
  | none => .stuck
@[simp] theorem ap_slice (m : M Rf) (ml mh : M (Option Int)) (env : En) : mSlice m ml mh env = (m env).bind fun x e => (ml e).bind fun lo e => (mh e).bind fun hi e => sliceR (view e x) lo hi e := rfl
@[simp] theorem ap_noPart (env : En) : mNoPart env = .ok none env := rfl
@[simp] theorem ap_part (m : M Rf) (env : En) : mPart m env = (m env).bind fun x env => match x with
  | .im (.int i) => .ok (some i) env
  | _ => .stuck := rfl
def cutI {α : Type} (ds : List α) (lo hi : Option Int) : List α := (ds.drop (HT.sIx ds.length 0 lo)).take (HT.sIx ds.length ds.length hi - HT.sIx ds.length 0 lo)
theorem cutD_map {α : Type} (f : α → D) (xs : List α) (lo hi : Option Int) : cutD (xs.map f) lo hi = (cutI xs lo hi).map f := by
  unfold cutD cutI
  rw [List.length_map, List.map_take, List.map_drop]
theorem sIx_some (n d : Nat) (k : Int) (h : 0 ≤ k) : HT.sIx n d (some k) = min k.toNat n := by
  show (if k < 0 then (k + (n : Int)).toNat else min k.toNat n) = _
  rw [if_neg (by omega)]
theorem cutI_to {α : Type} (xs : List α) (k : Int) (h : 0 ≤ k) : cutI xs none (some k) = xs.take k.toNat := by
  unfold cutI
  rw [HT.sIx_none, sIx_some _ _ _ h, List.drop_zero, Nat.sub_zero]
  by_cases hk : k.toNat ≤ xs.length
  · rw [Nat.min_eq_left hk]
  · rw [Nat.min_eq_right (by omega), List.take_of_length_le (Nat.le_refl _), List.take_of_length_le (by omega)]
theorem cutI_from {α : Type} (xs : List α) (k : Int) (h : 0 ≤ k) : cutI xs (some k) none = xs.drop k.toNat := by
  unfold cutI
  rw [HT.sIx_none, sIx_some _ _ _ h]
  by_cases hk : k.toNat ≤ xs.length
  · rw [Nat.min_eq_left hk, List.take_of_length_le (by rw [List.length_drop]; omega)]
  · rw [Nat.min_eq_right (by omega), List.drop_of_length_le (Nat.le_refl _), List.drop_of_length_le (by omega), List.take_nil]
@[simp] theorem sliceR_tI (xs : List Int) (lo hi : Option Int) (e : En) : sliceR (some (.im (tI xs))) lo hi e = .ok (.im (tI (cutI xs lo hi))) e := by
  unfold tI
  rw [← cutD_map]
  rfl
@[simp] theorem sliceR_ol (ds : List D) (lo hi : Option Int) (e : En) : sliceR (some (.ol ds)) lo hi e = .ok (.tmp (.ol (cutD ds lo hi))) e := rfl
@[simp] theorem sliceR_list (ds : List D) (lo hi : Option Int) (e : En) : sliceR (some (.im (.list ds))) lo hi e = .ok (.tmp (.ol (cutD ds lo hi))) e := rfl
@[simp] theorem sliceR_tup (ds : List D) (lo hi : Option Int) (e : En) : sliceR (some (.im (.tuple ds))) lo hi e = .ok (.im (.tuple (cutD ds lo hi))) e := rfl
end PL
namespace PL
open PySem PySem.Spec L2
open PySem.W (Datum Tup)
@[simp] theorem wipeE_nil (e : En) : wipeE [] e = e := rfl
@[simp] theorem wipeE_cons (v : Nat) (vs : List Nat) (e : En) : wipeE (v :: vs) e = (wipeE vs e).set v .no := rfl
/-! ### plain data, typed -/
class Dat (α : Type) [DecidableEq α] extends Datum α where
  lay : ∀ a : α, (Datum.toD a).canLay0 = true
section
variable {α β : Type} [DecidableEq α] [DecidableEq β]
instance : Dat Int := { (inferInstance : Datum Int) with lay := fun _ => by simp [Datum.toD, PyData.canLay0] }
instance : Dat Bool := { (inferInstance : Datum Bool) with lay := fun _ => by simp [Datum.toD, PyData.canLay0] }
instance : Dat Unit := { (inferInstance : Datum Unit) with lay := fun _ => by simp [Datum.toD, PyData.canLay0] }
theorem layAll_map [Dat α] : ∀ xs : List α, PyData.canLayAll0 (xs.map Datum.toD) = true
  | [] => by simp [PyData.canLayAll0]
  | x :: xs => by
    rw [List.map_cons, PyData.canLayAll0, Dat.lay x, layAll_map xs]
    rfl
instance [Dat α] : Dat (List α) := { (inferInstance : Datum (List α)) with lay := fun xs => (by show (PyData.list (xs.map Datum.toD)).canLay0 = true; rw [PyData.canLay0]; exact layAll_map xs) }
instance [Dat α] : Dat (Tup α) := { (inferInstance : Datum (Tup α)) with lay := fun xs => (by show (PyData.tuple (xs.items.map Datum.toD)).canLay0 = true; rw [PyData.canLay0]; exact layAll_map xs.items) }
instance [Dat α] [Dat β] : Dat (α × β) := { (inferInstance : Datum (α × β)) with lay := fun p => (by
    show (PyData.tuple [Datum.toD p.1, Datum.toD p.2]).canLay0 = true
    rw [PyData.canLay0, PyData.canLayAll0, Dat.lay p.1, PyData.canLayAll0, Dat.lay p.2]
    simp [PyData.canLayAll0]) }
theorem nice_dat [Dat α] (hd : Datum.depth α ≤ 16) (a : α) : nice (Datum.toD a) = true := by
  have h := Datum.depth_le a
  unfold nice SeqAt.shaped
  rw [Dat.lay a]
  simp
  omega
theorem gEq_dat [Dat α] {s t : Sl} (a b : α) (hs : content s = some (Datum.toD a)) (ht : content t = some (Datum.toD b)) (hd : Datum.depth α ≤ 16) : gEq s t = some (.im (.bool (decide (a = b)))) := by
  unfold gEq
  simp only [hs, ht, nice_dat hd, and_self, if_true, Datum.eqv]
theorem gNe_dat [Dat α] {s t : Sl} (a b : α) (hs : content s = some (Datum.toD a)) (ht : content t = some (Datum.toD b)) (hd : Datum.depth α ≤ 16) : gNe s t = some (.im (.bool (!decide (a = b)))) := by
  unfold gNe
  simp only [hs, ht, nice_dat hd, and_self, if_true, Datum.eqv]
theorem gIn_dat [Dat α] {s t : Sl} (a : α) (bs : List α) (hs : content s = some (Datum.toD a)) (ht : items t = some (bs.map Datum.toD)) (hd : Datum.depth α ≤ 16) : gIn s t = some (.im (.bool (decide (a ∈ bs)))) := by
  unfold gIn
  simp only [hs, ht, nice_dat hd, layAll_map, and_self, if_true, PySem.W.any_datum]
theorem gNotIn_dat [Dat α] {s t : Sl} (a : α) (bs : List α) (hs : content s = some (Datum.toD a)) (ht : items t = some (bs.map Datum.toD)) (hd : Datum.depth α ≤ 16) : gNotIn s t = some (.im (.bool (!decide (a ∈ bs)))) := by
  unfold gNotIn
  simp only [hs, ht, nice_dat hd, layAll_map, and_self, if_true, PySem.W.any_datum]
end
end PL
namespace TL
open PySem PySem.Spec L2 PL
open PySem.W (Datum Tup)
theorem tup_inj {xs ys : List Int} : (⟨xs⟩ : Tup Int) = ⟨ys⟩ ↔ xs = ys := ⟨fun e => congrArg Tup.items e, fun e => by rw [e]⟩
@[simp] theorem tup_0 : PyData.tuple [] = tI [] := rfl
@[simp] theorem tup_1 (a : Int) : PyData.tuple [.int a] = tI [a] := rfl
@[simp] theorem tup_2 (a b : Int) : PyData.tuple [.int a, .int b] = tI [a, b] := rfl
@[simp] theorem tup_3 (a b c : Int) : PyData.tuple [.int a, .int b, .int c] = tI [a, b, c] := rfl
@[simp] theorem tup_4 (a b c d : Int) : PyData.tuple [.int a, .int b, .int c, .int d] = tI [a, b, c, d] := rfl
@[simp] theorem tup_st (n : Int) (xs : List Int) : PyData.tuple [.int n, tI xs] = stD n xs := rfl
@[simp] theorem gIx_st0 (n : Int) (xs : List Int) : gIx (.im (stD n xs)) (.im (.int 0)) = some (.im (.int n)) := rfl
@[simp] theorem gIx_st1 (n : Int) (xs : List Int) : gIx (.im (stD n xs)) (.im (.int 1)) = some (.im (tI xs)) := rfl
@[simp] theorem gLen_tI (xs : List Int) : gLen [.im (tI xs)] = some (.im (.int xs.length)) := by
  unfold tI
  rw [gLen_tup, List.length_map]
@[simp] theorem gIx_tI (xs : List Int) (i : Int) : gIx (.im (tI xs)) (.im (.int i)) = (L2.atI xs i).map fun x => .im (.int x) := by
  unfold tI
  rw [gIx_tup]
  unfold L2.atI
  rw [List.length_map]
  cases ixN xs.length i with
  | none => rfl
  | some j => simp [List.getElem?_map, Function.comp_def]
theorem gAdd_tI (xs ys : List Int) (h : xs.length + ys.length ≤ 1000000) : gAdd (.im (tI xs)) (.im (tI ys)) = some (.im (tI (xs ++ ys))) := by
  unfold tI gAdd
  simp only [List.length_map, List.map_append]
  rw [if_pos (by rw [sizeLine_eq]; omega)]
theorem gIAdd_tI (xs ys : List Int) (h : xs.length + ys.length ≤ 1000000) : gIAdd (.im (tI xs)) (.im (tI ys)) = some (.im (tI (xs ++ ys))) := by
  unfold tI gIAdd
  simp only [List.length_map, List.map_append]
  rw [if_pos (by rw [sizeLine_eq]; omega)]
@[simp] theorem gIn_tI' (i : Int) (xs : List Int) : gIn (.im (.int i)) (.im (tI xs)) = some (.im (.bool (decide (i ∈ xs)))) := gIn_tI i xs
@[simp] theorem gNotIn_tI' (i : Int) (xs : List Int) : gNotIn (.im (.int i)) (.im (tI xs)) = some (.im (.bool (!decide (i ∈ xs)))) := gNotIn_tI i xs
@[simp] theorem tup_ints (xs : List Int) : PyData.tuple (xs.map .int) = tI xs := rfl
theorem outsOf_nil (fl : List Bool) : outsOf fl [] = [] := by cases fl with
  | nil => rfl
  | cons b fl => cases b <;> rfl
@[simp] theorem outsOf_f (fl : List Bool) (e : En) : outsOf (false :: fl) e = outsOf fl e.tail := by
  cases e with
  | nil => rw [List.tail_nil, outsOf_nil, outsOf_nil]
  | cons s e => rfl
@[simp] theorem outsOf_0 (e : En) : outsOf [] e = [] := by cases e <;> rfl
@[simp] theorem outsOf_t (fl : List Bool) (s : Sl) (e : En) : outsOf (true :: fl) (s :: e) = s :: outsOf fl e := rfl
@[simp] theorem gTuple_ints (xs : List Int) : gTuple [.ol (xs.map .int)] = some (.im (tI xs)) := rfl
@[simp] theorem gTuple_ol (ds : List D) : gTuple [.ol ds] = some (.im (.tuple ds)) := rfl
@[simp] theorem gTuple_tI (xs : List Int) : gTuple [.im (tI xs)] = some (.im (tI xs)) := rfl
@[simp] theorem gSorted_ints (xs : List Int) : gSorted [.ol (xs.map .int)] = some (.tmp (.ol ((sortI xs).map .int))) := by
  unfold gSorted
  simp [items, intsOf_of]
@[simp] theorem gSorted_tI (xs : List Int) : gSorted [.im (tI xs)] = some (.tmp (.ol ((sortI xs).map .int))) := by
  unfold gSorted tI
  simp [items, intsOf_of]
@[simp] theorem gInt_bool (k : Bool) : gInt [.im (.bool k)] = some (.im (.int (if k then 1 else 0))) := rfl
@[simp] theorem gInt_int (i : Int) : gInt [.im (.int i)] = some (.im (.int i)) := rfl
@[simp] theorem gEq_st (n m : Int) (xs ys : List Int) : gEq (.im (stD n xs)) (.im (stD m ys)) = some (.im (.bool (decide (n = m ∧ xs = ys)))) := by
  rw [gEq_dat (α := Int × Tup Int) (n, ⟨xs⟩) (m, ⟨ys⟩) rfl rfl (by decide)]
  simp [tup_inj]
@[simp] theorem gNe_st (n m : Int) (xs ys : List Int) : gNe (.im (stD n xs)) (.im (stD m ys)) = some (.im (.bool (!decide (n = m ∧ xs = ys)))) := by
  rw [gNe_dat (α := Int × Tup Int) (n, ⟨xs⟩) (m, ⟨ys⟩) rfl rfl (by decide)]
  simp [tup_inj]
@[simp] theorem truS_tI (xs : List Int) : truS (.im (tI xs)) = some (!decide (xs = [])) := by
  unfold tI truS
  cases xs <;> simp
@[simp] theorem tT_st (ts : List D → En → Option En) (n : Int) (xs : List Int) (env : En) : tTuple 2 ts (stD n xs) env = ts [.int n, tI xs] env := rfl
@[simp] theorem tT_2 (ts : List D → En → Option En) (a b : D) (env : En) : tTuple 2 ts (.tuple [a, b]) env = ts [a, b] env := rfl
@[simp] theorem tT_I2 (ts : List D → En → Option En) (a b : Int) (env : En) : tTuple 2 ts (tI [a, b]) env = ts [.int a, .int b] env := rfl
@[simp] theorem tsC (t : MT) (ts : List D → En → Option En) (d : D) (r : List D) (env : En) : tsCons t ts (d :: r) env = (match t d env with
  | some e => ts r e
  | none => none) := rfl
@[simp] theorem tsN (env : En) : tsNil [] env = some env := rfl
@[simp] theorem tN (np i : Nat) (d : D) (env : En) : tName np i d env = setSl np i (.im d) env := rfl
theorem tN_ok {np i : Nat} {d : D} {env : En} (h : i < env.length) (hn : np ≤ i) : tName np i d env = some (env.set i (.im d)) := by
  unfold tName setSl
  rw [List.getElem?_eq_getElem h]
  dsimp only
  rw [if_neg (by omega)]
end TL

set_option maxRecDepth 100000
namespace TL
open PySem PySem.Spec L2 PL

/-! ### kept -/
def keptF (ys found : List Int) (x : Int) : List Int := if ys[found.length]? = some x then found ++ [x] else found
def keptI (xs ys : List Int) : List Int := xs.foldl (keptF ys) []
theorem keptF_len (ys found : List Int) (x : Int) (h : found.length ≤ ys.length) : (keptF ys found x).length ≤ ys.length := by
  unfold keptF
  split
  · rename_i h2
    have := (List.getElem?_eq_some_iff.mp h2).1
    simp; omega
  · exact h
theorem kept_of_eq (xs ys : List Int) (hy : ys.length ≤ 1000) : f_kept_of [.im (tI xs), .im (tI ys)] = .ok (.im (tI (keptI xs ys))) [] := by
  refine eq_of_wpF ?_
  unfold f_kept_of m_kept_of b_kept_of_6
  rw [wpF_fn]
  simp [q_kept_of_1, q_kept_of_4, q_kept_of_5, mVar, sStore, setSl, Sl.own]
  refine wp_fold PyData.int (fun (found : List Int) t => [.im (tI xs), .im (tI ys), .im (tI found), t]) (keptF ys) (fun found => found.length ≤ ys.length) (st := []) (by simp) (fun found t x hx hp => ⟨keptF_len _ _ _ hp, _, tN_ok (by simp) (by decide), ?_⟩) ?_
  · by_cases h1 : found.length < ys.length
    · have h2 : L2.atI ys (found.length : Int) = some ys[found.length] := by rw [PL.atI_nat]; exact List.getElem?_eq_getElem h1
      by_cases h3 : ys[found.length] = x
      · have ga := gIAdd_tI found [x] (by simp; omega)
        simp [q_kept_of_3, q_kept_of_2, mVar, h1, h2, h3, keptF, sAug, ga, view, sStore, setSl, Sl.own]
      · simp [q_kept_of_3, q_kept_of_2, mVar, h1, h2, h3, keptF]
    · simp [q_kept_of_3, mVar, h1, keptF]
  · intro t hp
    simp [mVar, outsOf, keptI]

/-! ### away, script_to -/
def awayI (xs ys : List Int) : Int := (if keptI xs ys = xs then 0 else 1) + (runsI (ys.drop (keptI xs ys).length)).length
theorem away_eq (xs ys : List Int) (hy : ys.length < 1000) : f_away [.im (tI xs), .im (tI ys)] = .ok (.im (.int (awayI xs ys))) [] := by
  refine eq_of_wpF ?_
  have h1 := kept_of_eq xs ys (by omega)
  have h2 := runs_of_eq (xs := ys.drop (keptI xs ys).length) (by rw [List.length_drop]; omega)
  unfold f_away m_away b_away_3
  rw [wpF_fn]
  by_cases hk : keptI xs ys = xs
  · rw [hk] at h1 h2
    simp [q_away_1, q_away_2, mVar, callS_eq, ioVars, fillArgs, PL.writeBack, h1, sStore, setSl, Sl.own, cutI_from, h2, hk, awayI, outsOf, view]
  · simp [q_away_1, q_away_2, mVar, callS_eq, ioVars, fillArgs, PL.writeBack, h1, sStore, setSl, Sl.own, cutI_from, h2, hk, awayI, outsOf, view]
theorem keptI_len (xs ys : List Int) : (keptI xs ys).length ≤ ys.length := by
  have go : ∀ (xs found : List Int), found.length ≤ ys.length → (xs.foldl (keptF ys) found).length ≤ ys.length := by
    intro xs
    induction xs with
    | nil => intro f h; exact h
    | cons x xs ih => intro f h; exact ih _ (keptF_len ys f x h)
  exact go xs [] (by simp)
/-! script_to -/
def scriptI (xs ys : List Int) : List Act := (if keptI xs ys = xs then [] else [⟨false, sortI (xs.filter fun x => !decide (x ∈ keptI xs ys))⟩]) ++ (runsI (ys.drop (keptI xs ys).length)).map fun r => ⟨true, r⟩
def scD (os : List Act) : D := .tuple (os.map actD)
theorem gAdd_sc (a b : List Act) (h : a.length + b.length ≤ 100000) : gAdd (.im (scD a)) (.im (scD b)) = some (.im (scD (a ++ b))) := by
  unfold scD gAdd
  simp only [List.length_map, List.map_append]
  rw [if_pos (by rw [sizeLine_eq]; omega)]
theorem script_to_eq (xs ys : List Int) (hx : xs.length < 1000) (hy : ys.length < 1000) : f_script_to [.im (tI xs), .im (tI ys)] = .ok (.im (scD (scriptI xs ys))) [] := by
  refine eq_of_wpF ?_
  have h1 := kept_of_eq xs ys (by omega)
  have h2 := runs_of_eq (xs := ys.drop (keptI xs ys).length) (by rw [List.length_drop]; omega)
  have hl : (runsI (ys.drop (keptI xs ys).length)).length ≤ 1000 := by
    have R := runsI_ok (ys.drop (keptI xs ys).length)
    have := ne_le R.ne
    rw [R.flat, List.length_drop] at this
    omega
  unfold f_script_to m_script_to b_script_to_6
  rw [wpF_fn]
  have fin : ∀ (A : List Act) (s5 : Sl), A.length ≤ 1 → wpR (q_script_to_5 [.im (tI xs), .im (tI ys), .im (tI (keptI xs ys)), .im (scD A), .no, s5]) (fun e => False) (fun s e => s = .im (scD (A ++ (runsI (ys.drop (keptI xs ys).length)).map fun r => ⟨true, r⟩)) ∧ outsOf [false, false] e = []) := by
    intro A s5 hA
    have ga := gAdd_sc A ((runsI (ys.drop (keptI xs ys).length)).map fun r => ⟨true, r⟩) (by simp; omega)
    simp [q_script_to_5, mVar, callS_eq, ioVars, fillArgs, PL.writeBack, view, cutI_from, h2]
    refine wp_lcT tI (fun r => actD ⟨true, r⟩) (fun r hr => ⟨_, tN_ok (by simp) (by decide), by simp, by simp [mVar, actD, wordS]⟩) ?_
    · have e1 : PyData.tuple (List.map (fun r => actD ⟨true, r⟩) (runsI (ys.drop (keptI xs ys).length))) = scD ((runsI (ys.drop (keptI xs ys).length)).map fun r => ⟨true, r⟩) := by unfold scD; rw [List.map_map]; rfl
      simp [gTuple_ol, e1, ga, outsOf]
  by_cases hk : keptI xs ys = xs
  · have e0 : PyData.tuple [] = scD [] := rfl
    have q := fin [] .no (by simp)
    unfold scriptI
    rw [if_pos hk]
    simp only [hk] at *
    generalize q_script_to_5 = q5 at *
    simp [q_script_to_1, q_script_to_2, q_script_to_4, mVar, callS_eq, ioVars, fillArgs, PL.writeBack, h1, sStore, setSl, Sl.own]
    exact wpR_mono q (fun _ h => h.elim) (by simp)
  · have q := fin [⟨false, sortI (xs.filter fun x => !decide (x ∈ keptI xs ys))⟩] .no (by simp)
    unfold scriptI
    rw [if_neg hk]
    generalize q_script_to_5 = q5 at *
    have hk' : ¬ keptI xs ys = xs := hk
    simp [q_script_to_1, q_script_to_2, q_script_to_3, q_script_to_4, mVar, callS_eq, ioVars, fillArgs, PL.writeBack, h1, sStore, setSl, Sl.own, hk]
    refine wp_lc PyData.int (fun x => !decide (x ∈ keptI xs ys)) PyData.int (fun x hx => ⟨_, tN_ok (by simp [wipeE]) (by decide), by simp [wipeE], by simp [wipeE, mVar], fun _ => by simp [wipeE, mVar]⟩) ?_
    simp
    exact wpR_mono q (fun _ h => h.elim) (by simp)
end TL

set_option maxRecDepth 100000
namespace TL
open PySem PySem.Spec L2 PL

/-! ### parts by the law -/
theorem enumD_map {α : Type} (f : α → D) (xs : List α) : enumD (xs.map f) = (xs.zipIdx).map fun p => .tuple [.int (p.2 : Nat), f p.1] := by
  apply List.ext_getElem?
  intro i
  rw [enumD_get, List.getElem?_map, List.getElem?_map, List.getElem?_zipIdx, Option.map_map, Option.map_map]
  congr 1
  funext x
  simp
theorem law_parts_eq (xs : List Int) (hx : xs.length < 1000) : f__law_parts [.im (tI xs)] = .ok (.ol ((runsI xs).map tI)) [] := by
  refine eq_of_wpF ?_
  unfold f__law_parts m__law_parts b__law_parts_7
  rw [wpF_fn]
  simp [q__law_parts_1, q__law_parts_5, q__law_parts_6, mVar, sStore, setSl, Sl.own]
  refine wp_ix (fun i e => ∃ (rs : List (List Int)) (s t : Sl), e = [.im (tI xs), .ol (rs.map tI), s, t] ∧ rs = (xs.take i).foldl addRun [] ∧ RunsOf (xs.take i) rs) ⟨[], .no, .no, rfl, rfl, ⟨rfl, (fun r h => by cases h), (fun r h => by cases h), trivial⟩⟩ ?_ ?_
  · rintro i d e hd ⟨rs, s, t, rfl, er, R⟩
    rw [enumD_get, List.getElem?_map] at hd
    obtain ⟨d', hd', rfl⟩ := Option.map_eq_some_iff.mp hd
    obtain ⟨x, hx', rfl⟩ := Option.map_eq_some_iff.mp hd'
    have hi : i < xs.length := (List.getElem?_eq_some_iff.mp hx').1
    have tl : (xs.take i).length = i := by rw [List.length_take]; omega
    have l1 : rs.length ≤ i := by have := ne_le R.ne; rw [R.flat, tl] at this; exact this
    have tk : xs.take (i + 1) = xs.take i ++ [x] := by rw [List.take_add_one, hx']; rfl
    have hz : rs.length < sizeLine := by rw [sizeLine_eq]; omega
    have R' := R.add x
    rw [← tk] at R'
    have er' : addRun rs x = (xs.take (i + 1)).foldl addRun [] := by rw [tk, List.foldl_append, ← er]; rfl
    refine ⟨[.im (tI xs), .ol (rs.map tI), .im (.int i), .im (.int x)], by simp [setSl], ?_⟩
    suffices h : wpR (q__law_parts_4 [.im (tI xs), .ol (rs.map tI), .im (.int i), .im (.int x)]) (fun e => e = [.im (tI xs), .ol ((addRun rs x).map tI), .im (.int i), .im (.int x)]) (fun _ _ => False) from
      wpR_mono h (fun e he => ⟨addRun rs x, _, _, he, er', R'⟩) (fun _ _ h => h.elim)
    by_cases h0 : i = 0
    · subst h0
      have : rs = [] := by simpa using er
      subst this
      have z0 : 0 < sizeLine := by rw [sizeLine_eq]; decide
      simp [q__law_parts_4, q__law_parts_3, mVar, gGt, mAppend, addRun, z0]
    · -- the last of the last
      have hp : 0 < i := by omega
      have h1 : L2.atI xs ((i : Int) - 1) = some xs[i - 1] := by
        have e1 : (i : Int) - 1 = ((i - 1 : Nat) : Int) := by omega
        rw [e1, PL.atI_nat]
        exact List.getElem?_eq_getElem (by omega)
      have ne : rs ≠ [] := by
        rintro rfl
        have := R.flat
        have : (xs.take i).length = 0 := by rw [← this]; rfl
        omega
      obtain ⟨r, hr⟩ : ∃ r, rs.getLast? = some r := by
        cases h : rs.getLast? with
        | none => exact absurd (List.getLast?_eq_none_iff.mp h) ne
        | some r => exact ⟨r, rfl⟩
      have hrm : r ∈ rs := List.mem_of_getLast? hr
      obtain ⟨y, hy⟩ : ∃ y, r.getLast? = some y := by
        cases h : r.getLast? with
        | none => exact absurd (List.getLast?_eq_none_iff.mp h) (R.ne r hrm)
        | some y => exact ⟨y, rfl⟩
      have hyx : y = xs[i - 1] := by
        have f := R.flat
        have e := last_split hr
        rw [← e, List.flatten_append] at f
        have f2 : (xs.take i).getLast? = some y := by
          rw [← f]
          simp only [List.flatten_cons, List.flatten_nil, List.append_nil]
          rw [List.getLast?_append, hy]
          rfl
        rw [List.getLast?_eq_getElem?, tl, List.getElem?_take] at f2
        simp only [show i - 1 < i by omega, if_true] at f2
        rw [List.getElem?_eq_getElem (by omega)] at f2
        exact (Option.some.inj f2).symm
      have em : (rs.map tI).getLast? = some (tI r) := by rw [List.getLast?_map, hr]; rfl
      obtain ⟨a1, a2⟩ := atI_last em
      rw [List.length_map] at a2
      have lr : r.length ≤ 1000 := by
        have := flat_le hrm
        rw [R.flat, tl] at this
        omega
      unfold addRun
      rw [hr]
      dsimp only
      rw [hy]
      dsimp only
      subst hyx
      by_cases hlt : xs[i - 1] < x
      · have ga := gAdd_tI r [x] (by simp; omega)
        have es : (rs.map tI).set (rs.length - 1) (tI (r ++ [x])) = (rs.dropLast ++ [r ++ [x]]).map tI := by
          have sp := last_split hr
          have ln : rs.dropLast.length = rs.length - 1 := List.length_dropLast
          have q : rs.map tI = rs.dropLast.map tI ++ [tI r] := by rw [← List.map_singleton, ← List.map_append, sp]
          rw [q, List.set_append_right _ _ (by rw [List.length_map, ln]; exact Nat.le_refl _)]
          simp [ln]
        rw [if_pos hlt, ← es]
        simp [q__law_parts_4, q__law_parts_2, mVar, gGt, hp, h1, hlt, view, opv2, a1, ga, sSetIx, M.bind, a2]
      · rw [if_neg hlt]
        simp [q__law_parts_4, q__law_parts_3, mVar, gGt, hp, h1, hlt, mAppend, hz]
  · rintro e ⟨rs, s, t, rfl, er, R⟩
    have e1 : (enumD (xs.map PyData.int)).length = xs.length := by unfold enumD; rw [enumF_length, List.length_map]
    rw [e1, List.take_length] at er
    subst er
    simp [mVar, outsOf, runsI]
/-! ### the longest beginning -/
theorem keptF_pre (ys found : List Int) (x : Int) (h : found = ys.take found.length) : keptF ys found x = ys.take (keptF ys found x).length := by
  unfold keptF
  split
  · rename_i h2
    obtain ⟨h3, h4⟩ := List.getElem?_eq_some_iff.mp h2
    rw [List.length_append, List.length_singleton, List.take_add_one, h2, ← h]
    rfl
  · exact h
theorem keptI_pre (xs ys : List Int) : keptI xs ys = ys.take (keptI xs ys).length := by
  have go : ∀ (xs found : List Int), found = ys.take found.length → xs.foldl (keptF ys) found = ys.take (xs.foldl (keptF ys) found).length := by
    intro xs
    induction xs with
    | nil => intro f h; exact h
    | cons x xs ih => intro f h; exact ih _ (keptF_pre ys f x h)
  exact go xs [] rfl
/-- how far the law's reading comes with a beginning of c items -/
def placeF (ys : List Int) (c : Nat) (p : Nat) (x : Int) : Nat := if p < c ∧ ys[p]? = some x then p + 1 else p
theorem place_min (ys : List Int) (c : Nat) (hc : c ≤ ys.length) : ∀ (xs found : List Int), xs.foldl (placeF ys c) (min c found.length) = min c (xs.foldl (keptF ys) found).length
  | [], _ => rfl
  | x :: xs, found => by
    rw [List.foldl_cons, List.foldl_cons, ← place_min ys c hc xs (keptF ys found x)]
    congr 1
    unfold placeF keptF
    by_cases h : found.length < c
    · rw [Nat.min_eq_right (by omega)]
      by_cases h2 : ys[found.length]? = some x
      · rw [if_pos ⟨h, h2⟩, if_pos h2, List.length_append, List.length_singleton, Nat.min_eq_right (by omega)]
      · rw [if_neg (fun z => h2 z.2), if_neg h2, Nat.min_eq_right (by omega)]
    · rw [Nat.min_eq_left (by omega), if_neg (fun z => by omega)]
      split
      · rw [List.length_append, List.length_singleton, Nat.min_eq_left (by omega)]
      · rw [Nat.min_eq_left (by omega)]
theorem law_same_eq (xs ys : List Int) (hy : ys.length < 1000) : f__law_same [.im (tI xs), .im (tI ys)] = .ok (.im (tI (keptI xs ys))) [] := by
  refine eq_of_wpF ?_
  unfold f__law_same m__law_same b__law_same_10
  rw [wpF_fn]
  have eb : ((-1000000 : Int) ≤ (ys.length : Int) ∧ (ys.length : Int) ≤ 1000000) := by omega
  have kl := keptI_len xs ys
  simp [q__law_same_8, q__law_same_9, mVar, mRngD, eb]
  refine wp_ix (fun i e => (keptI xs ys).length + i ≤ ys.length ∧ ∃ s t u v : Sl, e = [.im (tI xs), .im (tI ys), s, t, u, v]) ⟨by omega, _, _, _, _, rfl⟩ ?_ ?_
  · rintro i d e hd ⟨hi, s, t, u, v, rfl⟩
    unfold downD at hd
    rw [List.getElem?_map] at hd
    obtain ⟨j, hj, rfl⟩ := Option.map_eq_some_iff.mp hd
    have hji : j = i := by
      have h2 := List.getElem?_eq_some_iff.mp hj
      obtain ⟨h3, h4⟩ := h2
      rw [List.getElem_range] at h4
      exact h4.symm
    subst hji
    obtain ⟨c, hc⟩ : ∃ c : Nat, (ys.length : Int) + (j : Nat) * (-1) = (c : Int) := ⟨ys.length - j, by omega⟩
    have hcl : c + j = ys.length := by omega
    rw [hc]
    refine ⟨[.im (tI xs), .im (tI ys), .im (.int c), t, u, v], by simp [setSl], ?_⟩
    have ct := cutI_to ys (c : Int) (by omega)
    rw [Int.toNat_natCast] at ct
    simp [b__law_same_7, q__law_same_1, mVar, view, ct, setSl, Sl.own]
    simp [q__law_same_4, mVar]
    refine wp_fold PyData.int (fun (p : Nat) t => [.im (tI xs), .im (tI ys), .im (.int c), .im (tI (ys.take c)), .im (.int p), t]) (placeF ys c) (fun p => p ≤ c) (st := 0) (Nat.zero_le _) (fun p t x hx hp => ⟨?_, _, tN_ok (by simp) (by decide), ?_⟩) ?_
    · unfold placeF
      split
      · omega
      · exact hp
    · by_cases h1 : p < c
      · have h2 : L2.atI (ys.take c) (p : Int) = some (ys[p]'(by omega)) := by
          rw [PL.atI_nat, List.getElem?_take, if_pos h1]
          exact List.getElem?_eq_getElem (by omega)
        have h4 : ys[p]? = some (ys[p]'(by omega)) := List.getElem?_eq_getElem (by omega)
        by_cases h3 : ys[p]'(by omega) = x
        · simp [q__law_same_3, q__law_same_2, mVar, h1, h2, h3, h4, placeF, sStore, setSl, Sl.own]
        · simp [q__law_same_3, q__law_same_2, mVar, h1, h2, h3, h4, placeF]
      · simp [q__law_same_3, mVar, h1, placeF]
    · intro t hp
      have pm := place_min ys c (by omega) xs []
      have e0 : min c ([] : List Int).length = 0 := by simp
      rw [e0] at pm
      have kf : (xs.foldl (keptF ys) []).length = (keptI xs ys).length := rfl
      rw [kf] at pm
      rw [pm]
      by_cases hk : (keptI xs ys).length = c
      · have e1 : keptI xs ys = ys.take c := by rw [← hk]; exact keptI_pre xs ys
        simp [q__law_same_6, q__law_same_5, mVar, hk, outsOf]
        rw [e1]
      · have : min c (keptI xs ys).length ≠ c := by omega
        simp [q__law_same_6, q__law_same_5, mVar]
        have h5 : ¬ (((min c (keptI xs ys).length : Nat) : Int) = (c : Int)) := by omega
        rw [decide_eq_false h5]
        exact ⟨by omega, _, _, _, _, rfl⟩
  · rintro e ⟨hi, s, t, u, v, rfl⟩
    unfold downD at hi
    rw [List.length_map, List.length_range] at hi
    omega
theorem law_steps_eq (xs ys : List Int) (hy : ys.length < 1000) : f__law_steps [.im (tI xs), .im (tI ys)] = .ok (.im (.int (awayI xs ys))) [] := by
  refine eq_of_wpF ?_
  have h1 := law_same_eq xs ys (by omega)
  have h2 := law_parts_eq (ys.drop (keptI xs ys).length) (by rw [List.length_drop]; omega)
  unfold f__law_steps m__law_steps b__law_steps_3
  rw [wpF_fn]
  unfold awayI
  by_cases hk : keptI xs ys = xs
  · rw [hk] at h1 h2 ⊢
    simp [q__law_steps_1, q__law_steps_2, mVar, callS_eq, ioVars, fillArgs, PL.writeBack, h1, sStore, setSl, Sl.own, cutI_from, h2, outsOf, view, opv2]
  · simp [q__law_steps_1, q__law_steps_2, mVar, callS_eq, ioVars, fillArgs, PL.writeBack, h1, sStore, setSl, Sl.own, cutI_from, h2, hk, outsOf, view, opv2, Int.add_comm]
end TL

set_option maxRecDepth 100000
namespace TL
open PySem PySem.Spec L2 PL

/-! ### what is kept, and the way -/
theorem kept_sub (ys : List Int) : ∀ (xs found : List Int), ∃ s, s.Sublist xs ∧ xs.foldl (keptF ys) found = found ++ s
  | [], found => ⟨[], .slnil, by simp⟩
  | x :: xs, found => by
    obtain ⟨s, h1, h2⟩ := kept_sub ys xs (keptF ys found x)
    rw [List.foldl_cons, h2]
    unfold keptF
    split
    · exact ⟨x :: s, h1.cons_cons x, by simp⟩
    · exact ⟨s, h1.cons x, rfl⟩
theorem keptI_sub (xs ys : List Int) : (keptI xs ys).Sublist xs := by
  obtain ⟨s, h1, h2⟩ := kept_sub ys xs []
  unfold keptI
  rw [h2]
  exact h1
theorem sub_filter : ∀ {K xs : List Int}, K.Sublist xs → xs.Nodup → xs.filter (fun x => decide (x ∈ K)) = K := by
  intro K xs h
  induction h with
  | slnil => intro _; rfl
  | @cons K xs a h ih =>
    intro nd
    obtain ⟨h1, h2⟩ := List.nodup_cons.mp nd
    have : a ∉ K := fun z => h1 (h.subset z)
    rw [List.filter_cons_of_neg (by simpa using this)]
    exact ih h2
  | @cons_cons K xs a h ih =>
    intro nd
    obtain ⟨h1, h2⟩ := List.nodup_cons.mp nd
    rw [List.filter_cons_of_pos (by simp)]
    congr 1
    rw [← ih h2]
    refine List.filter_congr fun x hx => ?_
    have : x ≠ a := fun z => h1 (z ▸ hx)
    rw [ih h2]
    simp [this]
theorem keptI_self (xs : List Int) : keptI xs xs = xs := by
  have go : ∀ (s p : List Int), xs = p ++ s → s.foldl (keptF xs) p = xs := by
    intro s
    induction s with
    | nil => intro p h; rw [h]; simp
    | cons x s ih =>
      intro p h
      rw [List.foldl_cons]
      have e : keptF xs p x = p ++ [x] := by
        unfold keptF
        rw [if_pos]
        rw [h]
        simp
      rw [e]
      exact ih (p ++ [x]) (by rw [h]; simp)
  exact go xs [] rfl
theorem last_append (os ps : List Act) (xs : List Int) : lastI xs (os ++ ps) = lastI (lastI xs os) ps := List.foldl_append ..
theorem last_runs : ∀ (rs : List (List Int)) (K : List Int), (K ++ rs.flatten).Nodup → lastI K (rs.map fun r => (⟨true, r⟩ : Act)) = K ++ rs.flatten
  | [], K, _ => by simp [lastI]
  | r :: rs, K, h => by
    have e : afterI K ⟨true, r⟩ = K ++ r := by
      unfold afterI
      simp only [if_true]
      congr 1
      refine List.filter_eq_self.mpr fun x hx => ?_
      rw [decide_eq_true_eq]
      intro hk
      have := (List.nodup_append.mp h).2.2 x hk x (by simp [hx])
      exact this rfl
    show lastI (afterI K ⟨true, r⟩) _ = _
    rw [e, last_runs rs (K ++ r) (by rw [List.append_assoc, ← List.flatten_cons]; exact h), List.flatten_cons, List.append_assoc]
theorem keptI_drop (xs ys : List Int) : keptI xs ys ++ ys.drop (keptI xs ys).length = ys := by
  have h := keptI_pre xs ys
  conv => lhs; arg 1; rw [h]
  exact List.take_append_drop _ _
theorem script_last {n : Int} {xs ys : List Int} (hx : Right n xs) (hy : Right n ys) : lastI xs (scriptI xs ys) = ys := by
  have kd := keptI_drop xs ys
  have R := runsI_ok (ys.drop (keptI xs ys).length)
  have nd : (keptI xs ys ++ (runsI (ys.drop (keptI xs ys).length)).flatten).Nodup := by rw [R.flat, kd]; exact hy.nd
  have lr := last_runs _ _ nd
  rw [R.flat, kd] at lr
  unfold scriptI
  rw [last_append]
  by_cases hk : keptI xs ys = xs
  · rw [if_pos hk]
    show lastI xs _ = ys
    conv => lhs; arg 1; rw [← hk]
    exact lr
  · rw [if_neg hk]
    have e : lastI xs [⟨false, sortI (xs.filter fun x => !decide (x ∈ keptI xs ys))⟩] = keptI xs ys := by
      unfold lastI
      rw [List.foldl_cons, List.foldl_nil]
      unfold afterI
      simp only [Bool.false_eq_true, if_false]
      refine Eq.trans ?_ (sub_filter (keptI_sub xs ys) hx.nd)
      refine List.filter_congr fun x hxm => ?_
      have q : x ∈ sortI (List.filter (fun x => !decide (x ∈ keptI xs ys)) xs) ↔ ¬ x ∈ keptI xs ys := by
        rw [(sortI_perm _).mem_iff, List.mem_filter]
        simp [hxm]
      simp [q]
    rw [e]
    exact lr
theorem sort_asc {l : List Int} (h : l.Nodup) : (sortI l).Pairwise (· < ·) := by
  have s := sortI_sorted l
  have d : (sortI l).Nodup := ((sortI_perm _).nodup_iff).mpr h
  exact (s.and d).imp fun h => by omega
theorem script_good {n : Int} {xs ys : List Int} (hx : Right n xs) (hy : Right n ys) : ∀ o ∈ scriptI xs ys, GoodAct n o := by
  intro o ho
  unfold scriptI at ho
  rcases List.mem_append.mp ho with h | h
  · by_cases hk : keptI xs ys = xs
    · rw [if_pos hk] at h; cases h
    · rw [if_neg hk] at h
      rw [List.mem_singleton.mp h]
      refine ⟨fun e => ?_, fun x hxm => ?_, sort_asc (hx.nd.filter _)⟩
      · have e0 : (xs.filter fun x => !decide (x ∈ keptI xs ys)) = [] := by
          have := (sortI_perm (xs.filter fun x => !decide (x ∈ keptI xs ys))).length_eq
          dsimp only at e
          rw [e] at this
          exact List.eq_nil_of_length_eq_zero this.symm
        apply hk
        rw [← sub_filter (keptI_sub xs ys) hx.nd]
        refine List.filter_eq_self.mpr fun x hxm => ?_
        have := List.filter_eq_nil_iff.mp e0 x hxm
        simpa using this
      · rw [(sortI_perm _).mem_iff] at hxm
        exact hx.mem x (List.mem_filter.mp hxm).1
  · obtain ⟨r, hr, rfl⟩ := List.mem_map.mp h
    have R := runsI_ok (ys.drop (keptI xs ys).length)
    refine ⟨R.ne r hr, fun x hxm => hy.mem x ?_, R.asc r hr⟩
    have : x ∈ (runsI (ys.drop (keptI xs ys).length)).flatten := List.mem_flatten.mpr ⟨r, hr, hxm⟩
    rw [R.flat] at this
    exact List.mem_of_mem_drop this
theorem script_len (xs ys : List Int) : ((scriptI xs ys).length : Int) = awayI xs ys := by
  unfold scriptI awayI
  split
  · simp
  · simp; omega
theorem runsI_nil {xs : List Int} (h : runsI xs = []) : xs = [] := by
  have R := runsI_ok xs
  rw [h] at R
  exact R.flat.symm
theorem away_zero (xs ys : List Int) : awayI xs ys = 0 ↔ xs = ys := by
  constructor
  · intro h
    unfold awayI at h
    split at h
    · rename_i hk
      have e : runsI (ys.drop (keptI xs ys).length) = [] := List.eq_nil_of_length_eq_zero (by omega)
      have d := runsI_nil e
      have kd := keptI_drop xs ys
      rw [d, List.append_nil, hk] at kd
      exact kd
    · omega
  · rintro rfl
    unfold awayI
    rw [keptI_self, if_pos rfl]
    simp [runsI]
theorem away_small {n : Int} {xs ys : List Int} (hy : Right n ys) : 0 ≤ awayI xs ys ∧ awayI xs ys ≤ 17 := by
  have R := runsI_ok (ys.drop (keptI xs ys).length)
  have := ne_le R.ne
  rw [R.flat, List.length_drop] at this
  have := hy.len
  unfold awayI
  split <;> omega
/-! ### distance, kept, shortest -/
theorem require_both_eq {n : Int} {xs ys : List Int} (hx : Right n xs) (hy : Right n ys) : f_require_both [.im (stD n xs), .im (stD n ys)] = .ok (.im .none) [] := by
  refine eq_of_wpF ?_
  have h1 := require_state_eq hx
  have h2 := is_state_eq hy
  unfold f_require_both m_require_both
  rw [wpF_fn]
  simp [b_require_both_4, q_require_both_1, q_require_both_3, mVar, callS_eq, ioVars, fillArgs, PL.writeBack, h1, h2, truS, outsOf]
theorem kept_eq {n : Int} {xs ys : List Int} (hx : Right n xs) (hy : Right n ys) : f_kept [.im (stD n xs), .im (stD n ys)] = .ok (.im (tI (keptI xs ys))) [] := by
  refine eq_of_wpF ?_
  have h1 := require_both_eq hx hy
  have h2 := kept_of_eq xs ys (by have := hy.len; omega)
  unfold f_kept m_kept
  rw [wpF_fn]
  simp [b_kept_3, q_kept_1, q_kept_2, mVar, callS_eq, ioVars, fillArgs, PL.writeBack, h1, h2, outsOf]
theorem distance_eq {n : Int} {xs ys : List Int} (hx : Right n xs) (hy : Right n ys) : f_distance [.im (stD n xs), .im (stD n ys)] = .ok (.im (.int (awayI xs ys))) [] := by
  refine eq_of_wpF ?_
  have h1 := require_both_eq hx hy
  have h2 := away_eq xs ys (by have := hy.len; omega)
  unfold f_distance m_distance
  rw [wpF_fn]
  simp [b_distance_3, q_distance_1, q_distance_2, mVar, callS_eq, ioVars, fillArgs, PL.writeBack, h1, h2, outsOf]
theorem shortest_eq {n : Int} {xs ys : List Int} (hx : Right n xs) (hy : Right n ys) : f_shortest [.im (stD n xs), .im (stD n ys)] = .ok (.im (scD (scriptI xs ys))) [] := by
  refine eq_of_wpF ?_
  have h1 := require_both_eq hx hy
  have h2 := script_to_eq xs ys (by have := hx.len; omega) (by have := hy.len; omega)
  unfold f_shortest m_shortest
  rw [wpF_fn]
  simp [b_shortest_3, q_shortest_1, q_shortest_2, mVar, callS_eq, ioVars, fillArgs, PL.writeBack, h1, h2, outsOf]
end TL

set_option maxRecDepth 100000
namespace TL
open PySem PySem.Spec L2 PL

/-! ### draws, as what holds behind -/
theorem wp_take {a b n : Int} {F : Sl → List Sl → Prop} (k : ∀ r a' b', 0 ≤ r → r < n → F (.im (.int r)) [bagS a' b']) (h0 : 0 < n := by omega) (h1 : n < 1073741824 := by omega) : wpF (f__law_take [bagS a b, .im (.int n)]) F := by
  obtain ⟨r, a', b', h2, h3, h4⟩ := take_ex a b n h0 h1
  rw [h4]
  exact k r a' b' h2 h3
theorem wp_of {a b : Int} {d : D} {ds : List D} {F : Sl → List Sl → Prop} (hd : d = .list ds ∨ d = .tuple ds) (k : ∀ x a' b', x ∈ ds → F (.im x) [bagS a' b']) (h0 : ds ≠ [] := by simp) (h1 : ds.length < 1073741824 := by simp) : wpF (f__law_of [bagS a b, .im d]) F := by
  obtain ⟨x, a', b', h2, h3⟩ := of_ex a b d ds hd h0 h1
  rw [h3]
  exact k x a' b' h2
theorem wp_list {a b n : Int} {F : Sl → List Sl → Prop} (k : ∀ xs a' b', Right n xs → F (.im (tI xs)) [bagS a' b']) (h0 : 1 ≤ n := by omega) (h1 : n ≤ 16 := by omega) : wpF (f__law_list [bagS a b, .im (.int n)]) F := by
  obtain ⟨xs, a', b', h2, h3⟩ := list_ex a b n h0 h1
  rw [h3]
  exact k xs a' b' h2
theorem wp_state {a b m : Int} {F : Sl → List Sl → Prop} (k : ∀ n xs a' b', Right n xs → n ≤ m → F (.im (stD n xs)) [bagS a' b']) (h0 : 1 ≤ m := by omega) (h1 : m ≤ 16 := by omega) : wpF (f__law_state [bagS a b, .im (.int m)]) F := by
  obtain ⟨n, xs, a', b', h2, h3, h4⟩ := state_ex a b m h0 h1
  rw [h4]
  exact k n xs a' b' h2 h3
theorem wp_step {a b n : Int} {F : Sl → List Sl → Prop} (k : ∀ o a' b', GoodAct n o → F (.im (actD o)) [bagS a' b']) (h0 : 1 ≤ n := by omega) (h1 : n ≤ 16 := by omega) : wpF (f__law_step [bagS a b, .im (.int n)]) F := by
  obtain ⟨o, a', b', h2, h3⟩ := step_ex a b n h0 h1
  rw [h3]
  exact k o a' b' h2
theorem wp_some {a b : Int} {L : List Int} {F : Sl → List Sl → Prop} (hL : L ≠ []) (hl : L.length ≤ 1000) (k : ∀ ys a' b', ys ≠ [] → ys.Sublist L → F (.im (tI ys)) [bagS a' b']) : wpF (f__law_some [bagS a b, .im (.list (L.map .int)), .im (.int 1)]) F := by
  obtain ⟨ys, a', b', h2, h3, h4⟩ := some_ex a b L hL hl
  rw [h4]
  exact k ys a' b' h2 h3
theorem wp_bag {ns : List Int} {k : Nat} {F : Sl → List Sl → Prop} (q : ∀ a b, F (bagS a b) []) (hk : k < 1000 := by omega) : wpF (f__law_bag [scrS ns, .im (.int k)]) F := by
  obtain ⟨a, b, h⟩ := bag_ex ns k hk
  rw [h]
  exact q a b
/-- a name's own object is handed in -/
@[simp] theorem fill_var (env : En) (fl : List Bool) (j : Nat) (xs : List Rf) (s : Sl) (ss : List Sl) : fillArgs env (true :: fl) (.var j :: xs) (s :: ss) = (match ownOf env (.var j), fillArgs env fl xs ss with
  | some s, some r => some (s :: r)
  | _, _ => none) := rfl
@[simp] theorem fill_im (env : En) (fl : List Bool) (x : Rf) (xs : List Rf) (s : Sl) (ss : List Sl) : fillArgs env (false :: fl) (x :: xs) (s :: ss) = (match fillArgs env fl xs ss with
  | some r => some (s :: r)
  | none => none) := by cases x <;> rfl
@[simp] theorem fill_nil (env : En) : fillArgs env [] [] [] = some [] := rfl
@[simp] theorem own_bag (a b : Int) : (bagS a b).own = true := rfl
theorem ownOf_of {env : En} {j : Nat} {s : Sl} (h : env[j]? = some s) (o : s.own = true) : ownOf env (.var j) = some s := by
  unfold ownOf
  dsimp only
  rw [h]
  dsimp only
  rw [if_pos o]
@[simp] theorem wb_var (fl : List Bool) (j : Nat) (xs : List Rf) (o : Sl) (outs : List Sl) (env : En) : PL.writeBack (true :: fl) (.var j :: xs) (o :: outs) env = PL.writeBack fl xs outs (env.set j o) := rfl
@[simp] theorem wb_im (fl : List Bool) (x : Rf) (xs : List Rf) (outs : List Sl) (env : En) : PL.writeBack (false :: fl) (x :: xs) outs env = PL.writeBack fl xs outs env := by cases x <;> (cases outs <;> rfl)
@[simp] theorem wb_nil (outs : List Sl) (env : En) : PL.writeBack [] [] outs env = env := by cases outs <;> rfl
@[simp] theorem iov_var (fl : List Bool) (j : Nat) (xs : List Rf) : ioVars (true :: fl) (.var j :: xs) = j :: ioVars fl xs := rfl
@[simp] theorem iov_im (fl : List Bool) (x : Rf) (xs : List Rf) : ioVars (false :: fl) (x :: xs) = ioVars fl xs := by cases x <;> rfl
@[simp] theorem iov_nil : ioVars [] [] = [] := rfl
/-- a name holds an object of its own -/
theorem var_own {i : Nat} {env : En} {s : Sl} (h : env[i]? = some s) (o : s.own = true) : mVar i env = .ok (.var i) env := by
  unfold mVar
  rw [h]
  cases s <;> first | rfl | cases o
/-- a near list -/
theorem right_sub {n : Int} {xs ys : List Int} (h : Right n xs) (s : ys.Sublist xs) : Right n ys := ⟨h.lo, h.hi, fun x hx => h.mem x (s.subset hx), h.nd.sublist s⟩
theorem wp_near {a b n : Int} {xs : List Int} {F : Sl → List Sl → Prop} (hx : Right n xs) (k : ∀ ys a' b', Right n ys → F (.im (tI ys)) [bagS a' b']) : wpF (f__law_near [bagS a b, .im (.int n), .im (tI xs)]) F := by
  have h0 := hx.lo
  have h1 := hx.hi
  have hl := hx.len
  unfold f__law_near m__law_near b__law_near_11
  rw [wpF_fn]
  simp [q__law_near_1, callS_eq]
  refine wp_take fun way a1 b1 w0 w1 => ?_
  have way0 : way = 0 ∨ xs = [] ∨ (way ≠ 0 ∧ xs ≠ []) := by
    by_cases q : way = 0
    · exact .inl q
    · by_cases q2 : xs = []
      · exact .inr (.inl q2)
      · exact .inr (.inr ⟨q, q2⟩)
  have fin : ∀ (a1 b1 : Int), wpF (f__law_list [bagS a1 b1, .im (.int n)]) fun r outs => ∃ ys a' b', Right n ys ∧ r = .im (tI ys) ∧ outs = [bagS a' b'] := fun a1 b1 => wp_list fun ys a' b' h => ⟨ys, a', b', h, rfl, rfl⟩
  by_cases hw : way = 0 ∨ xs = []
  · have e1 : wpM ((fun k e => Res.ok k e) true [bagS a1 b1, .im (.int n), .im (tI xs), .im (.int way), .no, .no, .no]) (fun _ _ => True) := trivial
    rcases hw with hw | hw
    · subst hw
      simp [q__law_near_3, q__law_near_2, callS_eq]
      exact wp_list fun ys a' b' h => by simpa [outsOf] using k ys a' b' h
    · subst hw
      by_cases hw : way = 0
      · subst hw
        simp [q__law_near_3, q__law_near_2, callS_eq]
        exact wp_list fun ys a' b' h => by simpa [outsOf] using k ys a' b' h
      · simp [q__law_near_3, q__law_near_2, callS_eq, hw]
        exact wp_list fun ys a' b' h => by simpa [outsOf] using k ys a' b' h
  · have hw0 : ¬ way = 0 := fun z => hw (.inl z)
    have hx0 : ¬ xs = [] := fun z => hw (.inr z)
    have hp := List.length_pos_iff.mpr hx0
    simp [q__law_near_3, hw0, hx0, q__law_near_4, callS_eq]
    refine wp_take fun at_ a2 b2 at0 at1 => ?_
    have ct := cutI_to xs at_ at0
    have cf := cutI_from xs at_ at0
    have cf1 := cutI_from xs (at_ + 1) (by omega)
    by_cases hw1 : way = 1
    · subst hw1
      have ga := gAdd_tI (xs.take at_.toNat) (xs.drop (at_ + 1).toNat) (by simp; omega)
      simp [q__law_near_6, q__law_near_5, ct, cf1, ga, outsOf]
      refine k _ _ _ (right_sub hx ?_)
      rw [show (at_ + 1).toNat = at_.toNat + 1 by omega, ← List.eraseIdx_eq_take_drop_succ]
      exact List.eraseIdx_sublist _ _
    · have e1 : (-1000000 ≤ (1 : Int) ∧ (1 : Int) ≤ 1000000) ∧ -1000000 ≤ n + 1 ∧ n + 1 ≤ 1000000 := by omega
      have e3 : rangeD 1 n.toNat = (ups n).map .int := by rw [← rangeD_ups, show n + 1 - 1 = n by omega]
      simp [q__law_near_6, hw1, q__law_near_7, mRng2, e1, e3]
      refine wp_lc PyData.int (fun x => !decide (x ∈ xs)) PyData.int (fun x hx => ⟨_, tN_ok (by simp) (by decide), by simp, by simp, fun _ => by simp⟩) ?_
      have gn : gNe (.im (.list (((ups n).filter fun x => !decide (x ∈ xs)).map .int))) (.ol []) = some (.im (.bool (!decide (((ups n).filter fun x => !decide (x ∈ xs)) = [])))) :=
        gNe_dat (α := List Int) _ [] rfl rfl (by decide)
      have last : Right n (xs.drop at_.toNat ++ xs.take at_.toNat) := by
        have pm : (xs.drop at_.toNat ++ xs.take at_.toNat).Perm xs := List.perm_append_comm.trans (by rw [List.take_append_drop])
        exact ⟨hx.lo, hx.hi, fun x h => hx.mem x (pm.mem_iff.mp h), pm.nodup_iff.mpr hx.nd⟩
      have ga2 := gAdd_tI (xs.drop at_.toNat) (xs.take at_.toNat) (by simp; omega)
      by_cases hw2 : way = 2 ∧ ((ups n).filter fun x => !decide (x ∈ xs)) ≠ []
      · obtain ⟨hw2, hr⟩ := hw2
        subst hw2
        simp only [decide_eq_false hr, Bool.not_false] at gn
        simp [q__law_near_9, gn, q__law_near_8, ct, cf, callS_eq]
        refine wp_of (.inl rfl) (fun x a3 b3 hxm => ?_) (by simpa using hr) ?_
        · obtain ⟨y, hy, rfl⟩ := List.mem_map.mp hxm
          obtain ⟨hy1, hy2⟩ := List.mem_filter.mp hy
          have hyn : y ∉ xs := by simpa using hy2
          have ga := gAdd_tI (xs.take at_.toNat) [y] (by simp; omega)
          have gb := gAdd_tI (xs.take at_.toNat ++ [y]) (xs.drop at_.toNat) (by simp; omega)
          simp [ga, gb, outsOf, ct, cf]
          have pm : (xs.take at_.toNat ++ y :: xs.drop at_.toNat).Perm (y :: xs) := by
            have h := (List.perm_middle (a := y) (l₁ := xs.take at_.toNat) (l₂ := xs.drop at_.toNat))
            rwa [List.take_append_drop] at h
          refine k _ _ _ ⟨hx.lo, hx.hi, fun x h => ?_, pm.nodup_iff.mpr (List.nodup_cons.mpr ⟨hyn, hx.nd⟩)⟩
          rcases List.mem_cons.mp (pm.mem_iff.mp h) with e | e
          · rw [e]; exact mem_ups.mp hy1
          · exact hx.mem x e
        · rw [List.length_map]
          have h2 := List.length_filter_le (fun x => !decide (x ∈ xs)) (ups n)
          rw [ups_length] at h2
          omega
      · by_cases hw3 : way = 2
        · have hr : ((ups n).filter fun x => !decide (x ∈ xs)) = [] := Classical.byContradiction fun z => hw2 ⟨hw3, z⟩
          rw [hr] at gn ⊢
          subst hw3
          simp at gn
          simp [q__law_near_9, gn, q__law_near_10, ct, cf, ga2, outsOf]
          exact k _ _ _ last
        · simp [q__law_near_9, hw3, q__law_near_10, ct, cf, ga2, outsOf]
          exact k _ _ _ last
end TL

set_option maxRecDepth 100000
namespace TL
open PySem PySem.Spec L2 PL

/-! ### a law's frame -/
def scrD (ns : List Int) : D := .dict [(.none, .list (ns.map .int))]
@[simp] theorem scrS_eq (ns : List Int) : scrS ns = .im (scrD ns) := rfl
@[simp] theorem gLen_scrD (ns : List Int) : gLen [.im (scrD ns)] = some (.im (.int ns.length)) := by
  unfold scrD
  rw [gLen_scr, List.length_map]
theorem gMin_2 (i j : Int) : gMin [.im (.int i), .im (.int j)] = some (.im (.int (if j < i then j else i))) := rfl
theorem wp_bag' {ns : List Int} {k : Nat} {F : Sl → List Sl → Prop} (q : ∀ a b, F (bagS a b) []) (hk : k < 1000 := by omega) : wpF (f__law_bag [.im (scrD ns), .im (.int k)]) F := wp_bag q hk
@[simp] theorem retR_bag (a b : Int) (e : En) : retR (bagS a b) e = .ok (.tmp (bagS a b)) e := rfl
@[simp] theorem toS_bag (np : Nat) (a b : Int) (e : En) : toS np (.tmp (bagS a b)) e = .ok (bagS a b) e := rfl
/-- for k in range(min(len(script), c) + p): body -/
theorem wp_outer {ns : List Int} {c p : Int} {m : Nat} {body : MS} {N : En → Prop} {R : Sl → En → Prop} {r0 : List Sl} (hns : ns.length ≤ 63) (h0 : r0.length = m) (hm : 0 < m) (hc : 0 ≤ c ∧ c ≤ 100) (hp : 0 ≤ p ∧ p ≤ 100)
    (h : ∀ (k : Nat) (r : List Sl), k < 1000 → r.length = m → wpR (body (.im (scrD ns) :: r.set 0 (.im (.int k)))) (fun e => ∃ r : List Sl, r.length = m ∧ e = .im (scrD ns) :: r) R) (hd : ∀ r : List Sl, r.length = m → N (.im (scrD ns) :: r)) :
    wpR (sFor (mRng1 (mOp2 gAdd (mCB gMin (mCons (mCB gLen (mCons (mVar 0) mNil)) (mCons (mK (.int c)) mNil))) (mK (.int p)))) (tName 1 1) body (.im (scrD ns) :: r0)) N R := by
  have e1 : ((if c < (ns.length : Int) then c else (ns.length : Int)) + p ≤ 1000000) ∧ (-1000000 : Int) ≤ (if c < (ns.length : Int) then c else (ns.length : Int)) + p := by split <;> omega
  have e2 : ((if c < (ns.length : Int) then c else (ns.length : Int)) + p).toNat < 1000 := by split <;> omega
  generalize hj : (if c < (ns.length : Int) then c else (ns.length : Int)) + p = j at e1 e2
  have hr : mRng1 (mOp2 gAdd (mCB gMin (mCons (mCB gLen (mCons (mVar 0) mNil)) (mCons (mK (.int c)) mNil))) (mK (.int p))) (.im (scrD ns) :: r0) = .ok (rangeD 0 j.toNat) (.im (scrD ns) :: r0) := by
    unfold mRng1
    simp [gMin_2, hj, e1]
  rw [ap_for, hr, Res.toSR_ok]
  refine wp_ix (fun i e => ∃ r : List Sl, r.length = m ∧ e = .im (scrD ns) :: r) ⟨r0, h0, rfl⟩ ?_ ?_
  · rintro i d e hd' ⟨r, hr, rfl⟩
    obtain ⟨hi, rfl⟩ := rangeD_get hd'
    refine ⟨.im (scrD ns) :: r.set 0 (.im (.int i)), ?_, h i r (by omega) hr⟩
    rw [Int.zero_add]
    rw [tN_ok (by simp; omega) (by decide)]
    rfl
  · rintro e ⟨r, hr, rfl⟩
    exact hd r hr
/-- for turn in range(c): body, of a frame that stays in I -/
theorem wp_turns {i : Nat} {c : Int} {I : En → Prop} {body : MS} {N : En → Prop} {R : Sl → En → Prop} {e : En} (h0 : I e) (hc : 0 ≤ c ∧ c ≤ 1000) (hl : ∀ e, I e → i < e.length) (hi : 1 ≤ i)
    (h : ∀ (k : Nat) e, I e → wpR (body (e.set i (.im (.int k)))) I R) (hd : ∀ e, I e → N e) : wpR (sFor (mRng1 (mK (.int c))) (tName 1 i) body e) N R := by
  have e1 : c ≤ 1000000 ∧ (-1000000 : Int) ≤ c := by omega
  have hr : mRng1 (mK (.int c)) e = .ok (rangeD 0 c.toNat) e := by
    unfold mRng1
    simp [e1]
  rw [ap_for, hr, Res.toSR_ok]
  refine wp_ix (fun _ e => I e) h0 ?_ fun e he => hd e he
  intro k d e hd' he
  obtain ⟨hk, rfl⟩ := rangeD_get hd'
  refine ⟨e.set i (.im (.int k)), ?_, h k e he⟩
  rw [Int.zero_add]
  exact tN_ok (hl e he) hi
theorem keeps_of {fn : Fn} (h : ∀ ns : List Int, ns.length ≤ 63 → wpF (fn [.im (scrD ns)]) fun r _ => r = .im (.bool true)) : Keeps fn := fun ns hl => by
  obtain ⟨s, o, e, rfl⟩ := wpF_eq (h ns hl)
  exact ⟨o, e⟩
theorem gLen_sc (os : List Act) : gLen [.im (scD os)] = some (.im (.int os.length)) := by
  unfold scD
  rw [gLen_tup, List.length_map]
theorem gEq_bb (a b : Bool) : gEq (.im (.bool a)) (.im (.bool b)) = some (.im (.bool (decide (a = b)))) := gEq_dat (α := Bool) a b rfl rfl (by decide)
theorem gNe_b2 (a b : Bool) : gNe (.im (.bool a)) (.im (.bool b)) = some (.im (.bool (!decide (a = b)))) := gNe_dat (α := Bool) a b rfl rfl (by decide)
end TL

set_option maxRecDepth 100000
namespace TL
open PySem PySem.Spec L2 PL

/-! ### sorted, by a closed list -/
section
variable {α : Type} [DecidableEq α]
def consT (d : D) : Bool := match d with
  | .tuple (_ :: _) => true
  | _ => false
def sortOk (enc : α → D) (T : List α) : Bool := decide T.Nodup && T.all (fun a => consT (enc a) && nice (enc a) && T.all fun b => (decide (T.idxOf a ≤ T.idxOf b) == leD (enc a) (enc b)) && PySem.W.alike (enc a) (enc b)) && decide (T.Pairwise fun a b => T.idxOf a ≤ T.idxOf b)
theorem gSortedG_sub {enc : α → D} {T T' M : List α} {s : Sl} (hs : asL s = some (M.map enc)) (chk : sortOk enc T = true) (sub : T'.Sublist T) (pm : M.Perm T') : gSortedG [s] = some (.tmp (.ol (T'.map enc))) := by
  unfold sortOk at chk
  rw [Bool.and_eq_true, Bool.and_eq_true, decide_eq_true_eq, decide_eq_true_eq] at chk
  obtain ⟨⟨nd, ck⟩, pw⟩ := chk
  have hm : ∀ a ∈ M, a ∈ T := fun a ha => sub.subset (pm.mem_iff.mp ha)
  have c1 : ∀ a ∈ T, consT (enc a) = true ∧ nice (enc a) = true ∧ ∀ b ∈ T, decide (T.idxOf a ≤ T.idxOf b) = leD (enc a) (enc b) ∧ PySem.W.alike (enc a) (enc b) = true := fun a ha => by
    have h := List.all_eq_true.mp ck a ha
    rw [Bool.and_eq_true, Bool.and_eq_true] at h
    refine ⟨h.1.1, h.1.2, fun b hb => ?_⟩
    have h2 := List.all_eq_true.mp h.2 b hb
    rw [Bool.and_eq_true] at h2
    exact ⟨eq_of_beq h2.1, h2.2⟩
  have a1 : (M.map enc).all (fun d => (M.map enc).all fun e => PySem.W.alike d e) = true := by
    rw [List.all_eq_true]
    intro d hd
    rw [List.all_eq_true]
    intro e he
    obtain ⟨a, ha, rfl⟩ := List.mem_map.mp hd
    obtain ⟨b, hb, rfl⟩ := List.mem_map.mp he
    exact ((c1 a (hm a ha)).2.2 b (hm b hb)).2
  have a2 : sortableB (M.map enc) = true := by
    unfold sortableB
    rw [Bool.or_eq_true]
    left
    rw [List.all_eq_true]
    intro d hd
    obtain ⟨a, ha, rfl⟩ := List.mem_map.mp hd
    exact (c1 a (hm a ha)).1
  have a3 : (M.map enc).all nice = true := by
    rw [List.all_eq_true]
    intro d hd
    obtain ⟨a, ha, rfl⟩ := List.mem_map.mp hd
    exact (c1 a (hm a ha)).2.1
  have fs : (M.map enc).mergeSort leD = T'.map enc := by
    have key : ∀ a ∈ M, ∀ b ∈ M, decide (T.idxOf a ≤ T.idxOf b) = leD (enc a) (enc b) := fun a ha b hb => ((c1 a (hm a ha)).2.2 b (hm b hb)).1
    rw [← List.map_mergeSort (r := fun a b => decide (T.idxOf a ≤ T.idxOf b)) key]
    congr 1
    have pm2 := (List.mergeSort_perm M fun a b => decide (T.idxOf a ≤ T.idxOf b)).trans pm
    refine List.Perm.eq_of_pairwise (le := fun a b => T.idxOf a ≤ T.idxOf b) (fun a b ha hb q1 q2 => ?_) ?_ (pw.sublist sub) pm2
    · have ma : a ∈ T := sub.subset (pm2.mem_iff.mp ha)
      have mb : b ∈ T := sub.subset hb
      have h1 := List.getElem_idxOf (List.idxOf_lt_length_of_mem ma)
      have h2 := List.getElem_idxOf (List.idxOf_lt_length_of_mem mb)
      have e : T.idxOf a = T.idxOf b := by omega
      rw [← h1, ← h2]
      congr 1
    · refine (List.pairwise_mergeSort (le := fun a b => decide (T.idxOf a ≤ T.idxOf b)) (fun a b c h1 h2 => ?_) (fun a b => ?_) M).imp fun h => of_decide_eq_true h
      · rw [decide_eq_true_eq] at *
        omega
      · rw [Bool.or_eq_true, decide_eq_true_eq, decide_eq_true_eq]
        omega
  unfold gSortedG
  simp only [hs, a1, a2, a3, and_self, if_true, fs]
end
/-! ### all operations -/
instance : DecidableEq Act := fun a b => if h : a.add = b.add ∧ a.items = b.items then isTrue (by
    obtain ⟨h1, h2⟩ := h
    cases a
    cases b
    dsimp only at h1 h2
    rw [h1, h2]) else isFalse fun e => h (by rw [e]; exact ⟨rfl, rfl⟩)
def lexS : List Int → List (List Int)
  | [] => []
  | x :: r => [x] :: ((lexS r).map fun s => x :: s) ++ lexS r
def setsI (n : Int) : List (List Int) := lexS (ups n)
def subsF (found : List (List Int)) (x : Int) : List (List Int) := found ++ found.map fun s => s ++ [x]
def subsI (n : Int) : List (List Int) := (ups n).foldl subsF [[]]
def actsI (n : Int) : List Act := (setsI n).map (fun s => ⟨true, s⟩) ++ (setsI n).map fun s => ⟨false, s⟩
theorem sets_ok {n : Int} (h0 : 1 ≤ n) (h1 : n ≤ 5) : sortOk tI (setsI n) = true := by
  have : n = 1 ∨ n = 2 ∨ n = 3 ∨ n = 4 ∨ n = 5 := by omega
  rcases this with rfl | rfl | rfl | rfl | rfl <;> decide +kernel
theorem subs_perm {n : Int} (h0 : 1 ≤ n) (h1 : n ≤ 5) : ((subsI n).filter fun s => !decide (s = [])).Perm (setsI n) := by
  rw [← List.isPerm_iff]
  have : n = 1 ∨ n = 2 ∨ n = 3 ∨ n = 4 ∨ n = 5 := by omega
  rcases this with rfl | rfl | rfl | rfl | rfl <;> decide +kernel
theorem acts_ok {n : Int} (h0 : 1 ≤ n) (h1 : n ≤ 5) : sortOk actD (actsI n) = true := by
  have : n = 1 ∨ n = 2 ∨ n = 3 ∨ n = 4 ∨ n = 5 := by omega
  rcases this with rfl | rfl | rfl | rfl | rfl <;> decide +kernel
theorem law_actions_eq {n : Int} (h0 : 1 ≤ n) (h1 : n ≤ 5) : f__law_actions [.im (.int n)] = .ok (.ol ((actsI n).map actD)) [] := by
  refine eq_of_wpF ?_
  unfold f__law_actions m__law_actions b__law_actions_6
  rw [wpF_fn]
  have e1 : (-1000000 ≤ (1 : Int) ∧ (1 : Int) ≤ 1000000) ∧ -1000000 ≤ n + 1 ∧ n + 1 ≤ 1000000 := by omega
  have e3 : rangeD 1 n.toNat = (ups n).map .int := by rw [← rangeD_ups, show n + 1 - 1 = n by omega]
  have lu : (ups n).length ≤ 5 := by rw [ups_length]; omega
  simp [q__law_actions_1, q__law_actions_3, mRng2, e1, e3]
  have l0 : PyData.list [tI []] = .list (([[]] : List (List Int)).map tI) := rfl
  rw [l0]
  have pw : ∀ k : Nat, k ≤ 5 → 2 ^ k ≤ 32 := fun k hk => Nat.pow_le_pow_right (by decide) (show k ≤ 5 from hk)
  refine wp_ix (fun i e => ∃ t, e = [.im (.int n), .im (.list ((((ups n).take i).foldl subsF [[]]).map tI)), t, .no, .no] ∧ (((ups n).take i).foldl subsF [[]]).length = 2 ^ i ∧ ∀ s ∈ ((ups n).take i).foldl subsF [[]], s.length ≤ i) ⟨.no, rfl, rfl, by simp⟩ ?_ ?_
  · rintro i d e hd ⟨t, rfl, hl, hm⟩
    rw [List.getElem?_map] at hd
    obtain ⟨x, hx, rfl⟩ := Option.map_eq_some_iff.mp hd
    have hi : i < (ups n).length := (List.getElem?_eq_some_iff.mp hx).1
    have tk : (ups n).take (i + 1) = (ups n).take i ++ [x] := by rw [List.take_add_one, hx]; rfl
    refine ⟨_, tN_ok (by simp) (by decide), ?_⟩
    generalize hf : ((ups n).take i).foldl subsF [[]] = F at *
    have ef : ((ups n).take (i + 1)).foldl subsF [[]] = subsF F x := by rw [tk, List.foldl_append, hf]; rfl
    rw [ef]
    have := pw i (by omega)
    have hz : F.length + F.length ≤ sizeLine := by rw [sizeLine_eq]; omega
    simp [q__law_actions_2]
    refine wp_lcT tI (fun s => tI (s ++ [x])) (fun s hs => ⟨_, tN_ok (by simp) (by decide), by simp, ?_⟩) ?_
    · have ga := gAdd_tI s [x] (by have := hm s hs; simp; omega)
      simp [ga]
    · have ga : gAdd (.im (.list (F.map tI))) (.ol (F.map fun s => tI (s ++ [x]))) = some (.tmp (.ol ((subsF F x).map tI))) := by
        have e : F.map (fun s => tI (s ++ [x])) = (F.map fun s => s ++ [x]).map tI := by rw [List.map_map]; rfl
        unfold gAdd subsF
        simp [hz]
      simp [ga]
      unfold subsF
      refine ⟨by simp; omega, fun s hs => ?_⟩
      rcases List.mem_append.mp hs with h | h
      · have := hm s h; omega
      · obtain ⟨s', h', rfl⟩ := List.mem_map.mp h
        have := hm s' h'
        simp; omega
  · rintro e ⟨t, rfl, hl, hm⟩
    have e4 : ((ups n).map PyData.int).length = (ups n).length := List.length_map ..
    rw [e4, List.take_length] at hl hm ⊢
    have hs : (ups n).foldl subsF [[]] = subsI n := rfl
    rw [hs] at hl hm ⊢
    simp [q__law_actions_4]
    refine wp_lc tI (fun s => !decide (s = [])) tI (fun s hs => ⟨_, tN_ok (by simp) (by decide), by simp, by simp, fun _ => by simp⟩) ?_
    have gs := gSortedG_sub (enc := tI) (T := setsI n) (T' := setsI n) (s := .ol (((subsI n).filter fun s => !decide (s = [])).map tI)) rfl (sets_ok h0 h1) (List.Sublist.refl _) (subs_perm h0 h1)
    have ln := (subs_perm h0 h1).length_eq
    have ln2 := List.length_filter_le (fun s : List Int => !decide (s = [])) (subsI n)
    have := pw (ups n).length lu
    have hz : (setsI n).length + (setsI n).length ≤ sizeLine := by rw [sizeLine_eq]; omega
    simp [gs, q__law_actions_5]
    refine wp_lcT tI (fun s => actD ⟨true, s⟩) (fun s hs => ⟨_, tN_ok (by simp) (by decide), by simp, by simp [actD, wordS]⟩) ?_
    refine wp_lcT tI (fun s => actD ⟨false, s⟩) (fun s hs => ⟨_, tN_ok (by simp) (by decide), by simp, by simp [actD, wordS]⟩) ?_
    have ga : gAdd (.ol ((setsI n).map fun s => actD ⟨true, s⟩)) (.ol ((setsI n).map fun s => actD ⟨false, s⟩)) = some (.tmp (.ol ((actsI n).map actD))) := by
      unfold gAdd actsI
      simp [hz, Function.comp_def]
    simp [ga, outsOf]
end TL

set_option maxRecDepth 100000
namespace PL
open PySem PySem.Spec L2
theorem lcV_map {α : Type} {np j : Nat} {vs : List Nat} {mt : MT} {mc : M Bool} {me : M Rf} {E : En} (enc : α → D) (g : α → D) (L : List α) (hE : E[j]? = some (.ol (L.map enc))) (h : ∀ x ∈ L, ∃ e1, mt (enc x) E = some e1 ∧ wipeE vs e1 = E ∧ mc e1 = .ok true e1 ∧ wpM (me e1) fun y e => toI np y e = .ok (g x) e1) :
    ∀ (f i : Nat), L.length < f + i → i ≤ L.length → lcLoopV np vs j mt mc me f i E = .ok ((L.drop i).map g) E
  | 0, i, hf, hi => by omega
  | f + 1, i, hf, hi => by
    unfold lcLoopV
    rw [hE]
    dsimp only
    rw [List.getElem?_map]
    by_cases hl : i < L.length
    · rw [List.getElem?_eq_getElem hl]
      dsimp only [Option.map_some]
      obtain ⟨e1, h1, h2, h3, h4⟩ := h L[i] (List.getElem_mem hl)
      obtain ⟨y, e, h5, h6⟩ := wpM_eq h4
      have ih := lcV_map enc g L hE h f (i + 1) (by omega) (by omega)
      rw [h1]
      dsimp only
      rw [h3, Res.bindN_ok]
      dsimp only
      rw [h5, Res.bindN_ok, h6, Res.bindN_ok, h2, ih, Res.bindN_ok]
      rw [List.drop_eq_getElem_cons hl, List.map_cons]
    · rw [List.getElem?_eq_none (by omega), List.drop_of_length_le (by omega)]
      rfl
@[simp] theorem lc2_nil {np : Nat} {vs vs1 : List Nat} {mt mt1 : MT} {mc mc1 : M Bool} {mi1 : M (List D)} {me : M Rf} (n : Nat) (e : En) : lcLoop2 np vs vs1 mt mc mi1 mt1 mc1 me [] n e = .ok [] e := rfl
theorem wp_lc2 {np : Nat} {vs vs1 : List Nat} {mt mt1 : MT} {mc1 : M Bool} {mi1 : M (List D)} {me : M Rf} {d : D} {ds : List D} {n : Nat} {e e1 : En} {Q : List D → En → Prop} (h1 : mt d e = some e1)
    (h2 : wpM (mi1 e1) fun ds1 e3 => n + ds1.length ≤ sizeLine ∧ wpM (lcLoop np vs1 mt1 mc1 me ds1 (wipeE vs1 e3)) fun r1 e4 => wpM (lcLoop2 np vs vs1 mt mYes mi1 mt1 mc1 me ds (n + ds1.length) (wipeE vs e4)) fun r e5 => Q (r1 ++ r) e5) :
    wpM (lcLoop2 np vs vs1 mt mYes mi1 mt1 mc1 me (d :: ds) n e) Q := by
  unfold lcLoop2
  rw [h1]
  dsimp only
  rw [ap_yes, Res.bindN_ok]
  dsimp only
  obtain ⟨ds1, e3, h3, h4, h5⟩ := wpM_eq h2
  rw [h3, Res.bindN_ok, if_pos h4]
  simpa using h5
end PL
namespace TL
open PySem PySem.Spec L2 PL
theorem all_operations_eq {n : Int} (h0 : 1 ≤ n) (h1 : n ≤ 5) : f_all_operations [.im (.int n)] = .ok (.ol ((actsI n).map actD)) [] := by
  refine eq_of_wpF ?_
  unfold f_all_operations m_all_operations b_all_operations_5
  rw [wpF_fn]
  have e1 : (-1000000 ≤ (1 : Int) ∧ (1 : Int) ≤ 1000000) ∧ -1000000 ≤ n + 1 ∧ n + 1 ≤ 1000000 := by omega
  have e3 : rangeD 1 n.toNat = (ups n).map .int := by rw [← rangeD_ups, show n + 1 - 1 = n by omega]
  have lu : (ups n).length ≤ 5 := by rw [ups_length]; omega
  simp [q_all_operations_1, q_all_operations_3, mRng2, e1, e3]
  have l0 : Sl.ol [tI []] = .ol (([[]] : List (List Int)).map tI) := rfl
  rw [l0]
  have pw : ∀ k : Nat, k ≤ 5 → 2 ^ k ≤ 32 := fun k hk => Nat.pow_le_pow_right (by decide) (show k ≤ 5 from hk)
  refine wp_ix (fun i e => ∃ t, e = [.im (.int n), .ol ((((ups n).take i).foldl subsF [[]]).map tI), t, .no, .no] ∧ (((ups n).take i).foldl subsF [[]]).length = 2 ^ i ∧ ∀ s ∈ ((ups n).take i).foldl subsF [[]], s.length ≤ i) ⟨.no, rfl, rfl, by simp⟩ ?_ ?_
  · rintro i d e hd ⟨t, rfl, hl, hm⟩
    rw [List.getElem?_map] at hd
    obtain ⟨x, hx, rfl⟩ := Option.map_eq_some_iff.mp hd
    have hi : i < (ups n).length := (List.getElem?_eq_some_iff.mp hx).1
    have tk : (ups n).take (i + 1) = (ups n).take i ++ [x] := by rw [List.take_add_one, hx]; rfl
    refine ⟨_, tN_ok (by simp) (by decide), ?_⟩
    generalize hf : ((ups n).take i).foldl subsF [[]] = F at *
    have ef : ((ups n).take (i + 1)).foldl subsF [[]] = subsF F x := by rw [tk, List.foldl_append, hf]; rfl
    rw [ef]
    have := pw i (by omega)
    have hz : F.length + F.length ≤ sizeLine := by rw [sizeLine_eq]; omega
    have lv := lcV_map (np := 1) (j := 1) (vs := [3]) (mt := tName 1 3) (mc := mYes) (me := mOp2 gAdd (mVar 3) (mTup 1 (mCons (mVar 2) mNil))) (E := [.im (.int n), .ol (F.map tI), .im (.int x), .no, .no]) tI (fun s => tI (s ++ [x])) F rfl (fun s hs => ⟨_, tN_ok (by simp) (by decide), by simp, by simp, by
      have ga := gAdd_tI s [x] (by have := hm s hs; simp; omega)
      simp [ga]⟩) (F.length + 1) 0 (by omega) (by omega)
    rw [List.drop_zero] at lv
    simp [q_all_operations_2, sExt, mLcV, lv, hz]
    unfold subsF
    refine ⟨by simp, by simp; omega, fun s hs => ?_⟩
    rcases List.mem_append.mp hs with h | h
    · have := hm s h; omega
    · obtain ⟨s', h', rfl⟩ := List.mem_map.mp h
      have := hm s' h'
      simp; omega
  · rintro e ⟨t, rfl, hl, hm⟩
    have e4 : ((ups n).map PyData.int).length = (ups n).length := List.length_map ..
    rw [e4, List.take_length] at hl hm ⊢
    have hs : (ups n).foldl subsF [[]] = subsI n := rfl
    rw [hs] at hl hm ⊢
    have ln := (subs_perm h0 h1).length_eq
    have := pw (ups n).length lu
    have hz : (subsI n).length ≤ sizeLine := by rw [sizeLine_eq]; omega
    have hz2 : (subsI n).length + (subsI n).length ≤ sizeLine := by rw [sizeLine_eq]; omega
    simp [q_all_operations_4, mLc2]
    refine wp_lc2 (tN_ok (by simp) (by decide)) ?_
    simp [hz]
    refine wp_lc tI (fun s => !decide (s = [])) (fun s => actD ⟨true, s⟩) (fun s hs => ⟨_, tN_ok (by simp) (by decide), by simp, by simp, fun _ => by simp [actD, wordS]⟩) ?_
    refine wp_lc2 (tN_ok (by simp) (by decide)) ?_
    simp [hz2]
    refine wp_lc tI (fun s => !decide (s = [])) (fun s => actD ⟨false, s⟩) (fun s hs => ⟨_, tN_ok (by simp) (by decide), by simp, by simp, fun _ => by simp [actD, wordS]⟩) ?_
    have pm := subs_perm h0 h1
    have pm2 : (((subsI n).filter fun s => !decide (s = [])).map (fun s => (⟨true, s⟩ : Act)) ++ ((subsI n).filter fun s => !decide (s = [])).map fun s => (⟨false, s⟩ : Act)).Perm (actsI n) := (pm.map _).append (pm.map _)
    have gs := gSortedG_sub (enc := actD) (T := actsI n) (T' := actsI n) (s := .ol (((((subsI n).filter fun s => !decide (s = [])).map (fun s => (⟨true, s⟩ : Act)) ++ ((subsI n).filter fun s => !decide (s = [])).map fun s => (⟨false, s⟩ : Act))).map actD)) rfl (acts_ok h0 h1) (List.Sublist.refl _) pm2
    rw [List.map_append, List.map_map, List.map_map] at gs
    simp [Function.comp_def] at gs ⊢
    simp [gs, outsOf]
end TL

set_option maxRecDepth 100000
namespace TL
open PySem PySem.Spec L2 PL
open PySem.W (Datum Tup)

/-! ### operations and scripts as data -/
theorem wordS_inj {a b : Bool} : wordS a = wordS b ↔ a = b := by
  constructor
  · intro h
    cases a <;> cases b <;> first | rfl | exact absurd h (by decide)
  · intro h; rw [h]
instance : Datum Act where
  toD := actD
  plain a := by
    have h := Datum.plain (α := Tup Int) ⟨a.items⟩
    show (PyData.tuple [.str (wordS a.add), tI a.items]).plain = true
    have h : (tI a.items).plain = true := h
    simp only [PyData.plain, PyData.plainAll, h, Bool.and_self]
  eqv a b := by
    have h := Datum.eqv (α := Str × Tup Int) (wordS a.add, ⟨a.items⟩) (wordS b.add, ⟨b.items⟩)
    refine Eq.trans h ?_
    refine decide_eq_decide.mpr ?_
    rw [Prod.mk.injEq, wordS_inj, tup_inj]
    constructor
    · rintro ⟨h1, h2⟩
      cases a
      cases b
      dsimp only at h1 h2
      rw [h1, h2]
    · rintro rfl
      exact ⟨rfl, rfl⟩
  depth := 2
  depth_le a := by
    show (PyData.tuple [.str (wordS a.add), tI a.items]).depth ≤ 2
    unfold tI
    simp [PyData.depth, PyData.depthAll, depth_ints]
theorem act_lay (a : Act) : (actD a).canLay0 = true := by
  have h := nice_lay (nice_tI a.items)
  show (PyData.tuple [.str (wordS a.add), tI a.items]).canLay0 = true
  have h2 := nice_lay (nice_word a.add)
  rw [PyData.canLay0, PyData.canLayAll0, h2, PyData.canLayAll0, h]
  simp [PyData.canLayAll0]
instance : Dat Act := { (inferInstance : Datum Act) with lay := act_lay }
@[simp] theorem sliceR_sc (os : List Act) (lo hi : Option Int) (e : En) : sliceR (some (.im (scD os))) lo hi e = .ok (.im (scD (cutI os lo hi))) e := by
  unfold scD
  rw [← cutD_map]
  rfl
@[simp] theorem gLen_sc' (os : List Act) : gLen [.im (scD os)] = some (.im (.int os.length)) := gLen_sc os
@[simp] theorem gIx_sc (os : List Act) (i : Int) : gIx (.im (scD os)) (.im (.int i)) = (L2.atI os i).map fun x => .im (actD x) := by
  unfold scD
  rw [gIx_tup]
  unfold L2.atI
  rw [List.length_map]
  cases ixN os.length i with
  | none => rfl
  | some j => simp [List.getElem?_map, Function.comp_def]
@[simp] theorem gIx_act0 (o : Act) : gIx (.im (actD o)) (.im (.int 0)) = some (.im (.str (wordS o.add))) := rfl
@[simp] theorem gIx_act1 (o : Act) : gIx (.im (actD o)) (.im (.int 1)) = some (.im (tI o.items)) := rfl
@[simp] theorem tup_act1 (o : Act) : PyData.tuple [actD o] = scD [o] := rfl
@[simp] theorem tup_act2 (o p : Act) : PyData.tuple [actD o, actD p] = scD [o, p] := rfl
@[simp] theorem seqR_sc (os : List Act) (e : En) : seqR (scD os) e = .ok (os.map actD) e := rfl
@[simp] theorem tup_map (os : List Act) : PyData.tuple (os.map actD) = scD os := rfl
theorem gEq_act (o p : Act) : gEq (.im (actD o)) (.im (actD p)) = some (.im (.bool (decide (o = p)))) := gEq_dat (α := Act) o p rfl rfl (by decide)
theorem gNe_act (o p : Act) : gNe (.im (actD o)) (.im (actD p)) = some (.im (.bool (!decide (o = p)))) := gNe_dat (α := Act) o p rfl rfl (by decide)
theorem gNe_actsO (s t : Sl) (a b : List Act) (hs : content s = some (.list (a.map actD))) (ht : content t = some (.list (b.map actD))) : gNe s t = some (.im (.bool (!decide (a = b)))) := gNe_dat (α := List Act) a b hs ht (by decide)
theorem gEq_actsO (s t : Sl) (a b : List Act) (hs : content s = some (.list (a.map actD))) (ht : content t = some (.list (b.map actD))) : gEq s t = some (.im (.bool (decide (a = b)))) := gEq_dat (α := List Act) a b hs ht (by decide)
theorem last_of_eq' {n : Int} {xs : List Int} {os : List Act} (h : Right n xs) (g : ∀ o ∈ os, GoodAct n o) : f_last_of [.im (tI xs), .im (scD os)] = .ok (.im (tI (lastI xs os))) [] := last_of_eq h g
theorem law_last_eq' {n : Int} {xs : List Int} {os : List Act} (h : Right n xs) (g : ∀ o ∈ os, GoodAct n o) : f__law_last [.im (tI xs), .im (scD os)] = .ok (.im (tI (lastI xs os))) [] := law_last_eq h g
theorem require_script_eq' {n m : Int} {os : List Act} (hn : n ≤ 16) (h : ∀ o ∈ os, GoodAct n o) (hl : (os.length : Int) ≤ m) : f_require_script [.im (.int n), .im (scD os), .im (.int m)] = .ok (.im .none) [] := require_script_eq hn h hl
/-! ### all operations are good, every good one is among them -/
theorem lex_mem {s L : List Int} : s ∈ lexS L ↔ s ≠ [] ∧ s.Sublist L := by
  induction L generalizing s with
  | nil =>
    unfold lexS
    constructor
    · intro h; cases h
    · rintro ⟨h, k⟩
      exact absurd (List.sublist_nil.mp k) h
  | cons x r ih =>
    unfold lexS
    simp only [List.cons_append, List.mem_cons, List.mem_append, List.mem_map]
    constructor
    · rintro (rfl | ⟨t, ht, rfl⟩ | h)
      · exact ⟨by simp, List.singleton_sublist.mpr (by simp)⟩
      · exact ⟨by simp, (ih.mp ht).2.cons_cons x⟩
      · exact ⟨(ih.mp h).1, (ih.mp h).2.cons x⟩
    · rintro ⟨h, k⟩
      cases k with
      | cons _ k => exact .inr (.inr (ih.mpr ⟨h, k⟩))
      | cons_cons _ k =>
        rename_i t
        cases t with
        | nil => exact .inl rfl
        | cons y t => exact .inr (.inl ⟨y :: t, ih.mpr ⟨by simp, k⟩, rfl⟩)
theorem acts_good {n : Int} {o : Act} (h : o ∈ actsI n) : GoodAct n o := by
  have key : ∀ s ∈ setsI n, ∀ k, GoodAct n ⟨k, s⟩ := fun s hs k => by
    obtain ⟨h1, h2⟩ := lex_mem.mp hs
    exact ⟨h1, fun x hx => mem_ups.mp (h2.subset hx), (ups_sorted n).sublist h2⟩
  unfold actsI at h
  rcases List.mem_append.mp h with h | h
  · obtain ⟨s, hs, rfl⟩ := List.mem_map.mp h
    exact key s hs _
  · obtain ⟨s, hs, rfl⟩ := List.mem_map.mp h
    exact key s hs _
theorem asc_sub {n : Int} {s : List Int} (h1 : ∀ x ∈ s, 1 ≤ x ∧ x ≤ n) (h2 : s.Pairwise (· < ·)) : s.Sublist (ups n) := by
  have e : (ups n).filter (fun x => decide (x ∈ s)) = s := by
    refine List.Perm.eq_of_pairwise (le := (· < ·)) (fun a b _ _ q1 q2 => by omega) ((ups_sorted n).filter _) h2 ?_
    refine (List.perm_ext_iff_of_nodup ((ups_nodup n).filter _) (h2.imp fun h e => by omega)).mpr fun x => ?_
    rw [List.mem_filter, decide_eq_true_eq, mem_ups]
    exact ⟨fun q => q.2, fun q => ⟨h1 x q, q⟩⟩
  rw [← e]
  exact List.filter_sublist
theorem good_acts {n : Int} {o : Act} (h : GoodAct n o) : o ∈ actsI n := by
  have hs : o.items ∈ setsI n := lex_mem.mpr ⟨h.ne, asc_sub h.mem h.asc⟩
  unfold actsI
  rw [List.mem_append, List.mem_map, List.mem_map]
  obtain ⟨k, s⟩ := o
  cases k with
  | true => exact .inl ⟨s, hs, rfl⟩
  | false => exact .inr ⟨s, hs, rfl⟩
/-- a drawn row of operations -/
theorem wp_acts {np j k i : Nat} {n : Int} {m : Nat} {E : En} {a b : Int} {Q : List D → En → Prop} (hj : E[j]? = some (bagS a b)) (hk : E[k]? = some (.im (.int n))) (hi : i < E.length) (hij : i ≠ j) (hik : i ≠ k) (hnp : np ≤ i) (hjk : j ≠ k) (hE : E[i]? = some .no) (h0 : 1 ≤ n) (h1 : n ≤ 16)
    (q : ∀ (os : List Act) a' b', (∀ o ∈ os, GoodAct n o) → os.length = m → Q (os.map actD) (E.set j (bagS a' b'))) :
    wpM (lcLoop np [i] (tName np i) mYes (mCall np [true, false] f__law_step (mCons (mVar j) (mCons (mVar k) mNil))) (rangeD 0 m) E) Q := by
  have go : ∀ (ds : List D) (E : En) (a b : Int), E[j]? = some (bagS a b) → E[k]? = some (.im (.int n)) → i < E.length → E[i]? = some .no → ∃ (os : List Act) (a' b' : Int), (∀ o ∈ os, GoodAct n o) ∧ os.length = ds.length ∧ lcLoop np [i] (tName np i) mYes (mCall np [true, false] f__law_step (mCons (mVar j) (mCons (mVar k) mNil))) ds E = .ok (os.map actD) (E.set j (bagS a' b')) := by
    intro ds
    induction ds with
    | nil =>
      intro E a b hj hk hi hE
      refine ⟨[], a, b, (fun o h => by cases h), rfl, ?_⟩
      have : E.set j (bagS a b) = E := by
        apply List.ext_getElem?
        intro l
        by_cases e : j = l
        · subst e
          rw [List.getElem?_set_self (List.getElem?_eq_some_iff.mp hj).1, hj]
        · rw [List.getElem?_set_ne e]
      rw [this]
      rfl
    | cons d ds ih =>
      intro E a b hj hk hi hE
      obtain ⟨o, a1, b1, go, h3⟩ := step_ex a b n h0 h1
      let E1 := E.set i (.im d)
      have jl := (List.getElem?_eq_some_iff.mp hj).1
      have hj1 : E1[j]? = some (bagS a b) := by rw [List.getElem?_set_ne hij]; exact hj
      have hk1 : E1[k]? = some (.im (.int n)) := by rw [List.getElem?_set_ne hik]; exact hk
      have c : callS np [true, false] f__law_step [.var j, .im (.int n)] E1 = .ok (.im (actD o)) (E1.set j (bagS a1 b1)) := callB hj1 rfl h3
      have w : wipeE [i] (E1.set j (bagS a1 b1)) = E.set j (bagS a1 b1) := by
        apply List.ext_getElem?
        intro l
        show ((E1.set j (bagS a1 b1)).set i .no)[l]? = _
        by_cases e : i = l
        · subst e
          rw [List.getElem?_set_self (by simp [E1]; omega), List.getElem?_set_ne (Ne.symm hij), hE]
        · rw [List.getElem?_set_ne e]
          by_cases e2 : j = l
          · subst e2
            rw [List.getElem?_set_self (by simp [E1]; omega), List.getElem?_set_self jl]
          · rw [List.getElem?_set_ne e2, List.getElem?_set_ne e2, List.getElem?_set_ne e]
      obtain ⟨os, a2, b2, g, hl, hr⟩ := ih (E.set j (bagS a1 b1)) a1 b1 (List.getElem?_set_self jl) (by rw [List.getElem?_set_ne hjk]; exact hk) (by simpa using hi) (by rw [List.getElem?_set_ne (Ne.symm hij)]; exact hE)
      refine ⟨o :: os, a2, b2, fun x hx => ?_, by simp [hl], ?_⟩
      · rcases List.mem_cons.mp hx with e | e
        · rw [e]; exact go
        · exact g x e
      · unfold lcLoop
        rw [tN_ok hi hnp]
        dsimp only
        rw [ap_yes, Res.bindN_ok]
        dsimp only
        have m1 : mCall np [true, false] f__law_step (mCons (mVar j) (mCons (mVar k) mNil)) E1 = .ok (.im (actD o)) (E1.set j (bagS a1 b1)) := by
          rw [ap_call, ap_cons, ap_varG, hj1, varG_bag, Res.bind_ok, ap_cons, ap_varG, hk1, varG_im, Res.bind_ok, ap_nil, Res.bind_ok, Res.bind_ok, Res.bind_ok]
          exact c
        rw [m1, Res.bindN_ok, toI_im, Res.bindN_ok, w, hr, Res.bindN_ok, List.set_set, List.map_cons]
  obtain ⟨os, a', b', g, hl, hr⟩ := go (rangeD 0 m) E a b hj hk hi hE
  rw [hr]
  exact q os a' b' g (by rw [hl, rangeD_length])
end TL
namespace PL
open PySem PySem.Spec L2
/-- a loop that appends what passes a test -/
theorem wp_filter {α : Type} {mt : MT} {body : MS} {N : En → Prop} {R : Sl → En → Prop} (enc g : α → D) (c : α → Bool) (E : List D → Sl → En) {L : List α} {t : Sl}
    (hs : ∀ acc t x, x ∈ L → acc.length < L.length → ∃ e1, mt (enc x) (E acc t) = some e1 ∧ wpR (body e1) (fun e => ∃ t', e = E (if c x then acc ++ [g x] else acc) t') R)
    (hd : ∀ t, N (E ((L.filter c).map g) t)) : wpR (loopS mt body (L.map enc) (E [] t)) N R := by
  refine wp_ix (fun i e => ∃ t, e = E (((L.take i).filter c).map g) t) ⟨t, by simp⟩ ?_ ?_
  · rintro i d e hd' ⟨t, rfl⟩
    rw [List.getElem?_map] at hd'
    obtain ⟨x, hx, rfl⟩ := Option.map_eq_some_iff.mp hd'
    have hi : i < L.length := (List.getElem?_eq_some_iff.mp hx).1
    have ll : (((L.take i).filter c).map g).length < L.length := by
      rw [List.length_map]
      have := List.length_filter_le c (L.take i)
      rw [List.length_take] at this
      omega
    obtain ⟨e1, h1, h2⟩ := hs _ t x (List.mem_of_getElem? hx) ll
    refine ⟨e1, h1, wpR_mono h2 (fun e he => ?_) fun _ _ z => z⟩
    obtain ⟨t', rfl⟩ := he
    refine ⟨t', ?_⟩
    rw [List.take_add_one, hx, List.filter_append, List.map_append]
    by_cases hc : c x = true
    · simp [hc]
    · simp [hc]
  · rintro e ⟨t, rfl⟩
    rw [List.length_map, List.take_length]
    exact hd t
end PL

set_option maxRecDepth 100000
namespace TL
open PySem PySem.Spec L2 PL
open PySem.W (Datum Tup)

/-! ### smallest, sets_of, count_operations -/
def gainI (xs ys : List Int) : List Int := sortI (ys.filter fun x => !decide (x ∈ xs))
def tryI (k : Bool) (xs ys : List Int) : Option Act := (fun s => if s ≠ [] ∧ afterI xs ⟨k, s⟩ = ys then some ⟨k, s⟩ else none) (if k then gainI xs ys else gainI ys xs)
def smallI (xs ys : List Int) : Option Act := (tryI true xs ys).or (tryI false xs ys)
def optA : Option Act → D
  | some o => actD o
  | none => .none
theorem gain_good {n : Int} {xs ys : List Int} (hy : Right n ys) (k : Bool) (h : gainI xs ys ≠ []) : GoodAct n ⟨k, gainI xs ys⟩ := by
  refine ⟨h, fun x hx => ?_, sort_asc (hy.nd.filter _)⟩
  unfold gainI at hx
  rw [(sortI_perm _).mem_iff] at hx
  exact hy.mem x (List.mem_filter.mp hx).1
theorem gEq_word (k : Bool) : gEq (.im (.str (wordS k))) (.im (.str "add")) = some (.im (.bool k)) := gEq_add k
theorem small_turn {n : Int} {xs ys : List Int} (hx : Right n xs) (hy : Right n ys) (k : Bool) (t4 t5 t6 : Sl) (N : En → Prop) (R : Sl → En → Prop)
    (h1 : ∀ o e, tryI k xs ys = some o → R (.im (actD o)) e) (h2 : tryI k xs ys = none → ∀ t4 t5, N [.im (tI xs), .im (tI ys), .im (.str (wordS k)), .im (tI (if k then ys else xs)), t4, t5, .no]) :
    wpR (b_smallest_5 [.im (tI xs), .im (tI ys), .im (.str (wordS k)), .im (tI (if k then ys else xs)), t4, t5, t6]) N R := by
  have g := gEq_word k
  cases k with
  | true =>
    have e0 : wordS true = "add" := rfl
    simp [b_smallest_5, q_smallest_1, g, q_smallest_2]
    refine wp_lc PyData.int (fun x => !decide (x ∈ xs)) PyData.int (fun x hx => ⟨_, tN_ok (by simp) (by decide), by simp, by simp, fun _ => by simp⟩) ?_
    have eg : sortI (ys.filter fun x => !decide (x ∈ xs)) = gainI xs ys := rfl
    simp [eg, q_smallest_4]
    by_cases hs : gainI xs ys = []
    · have ht : tryI true xs ys = none := by
        unfold tryI
        simp [hs]
      simp [hs]
      exact h2 ht _ _
    · have ca := after_eq hx (gain_good hy true hs)
      have ea : PyData.tuple [.str (wordS true), tI (gainI xs ys)] = actD ⟨true, gainI xs ys⟩ := rfl
      by_cases hq : afterI xs ⟨true, gainI xs ys⟩ = ys
      · have ht : tryI true xs ys = some ⟨true, gainI xs ys⟩ := by
          unfold tryI
          simp [hs, hq]
        simp [hs, callS_eq, ea, ca, hq, q_smallest_3]
        exact h1 _ _ ht
      · have ht : tryI true xs ys = none := by
          unfold tryI
          simp [hq]
        simp [hs, callS_eq, ea, ca, hq]
        exact h2 ht _ _
  | false =>
    simp [b_smallest_5, q_smallest_1, g, q_smallest_2]
    refine wp_lc PyData.int (fun x => !decide (x ∈ ys)) PyData.int (fun x hx => ⟨_, tN_ok (by simp) (by decide), by simp, by simp, fun _ => by simp⟩) ?_
    have eg : sortI (xs.filter fun x => !decide (x ∈ ys)) = gainI ys xs := rfl
    simp [eg, q_smallest_4]
    by_cases hs : gainI ys xs = []
    · have ht : tryI false xs ys = none := by
        unfold tryI
        simp [hs]
      simp [hs]
      exact h2 ht _ _
    · have ca := after_eq hx (gain_good hx false hs)
      have ea : PyData.tuple [.str (wordS false), tI (gainI ys xs)] = actD ⟨false, gainI ys xs⟩ := rfl
      by_cases hq : afterI xs ⟨false, gainI ys xs⟩ = ys
      · have ht : tryI false xs ys = some ⟨false, gainI ys xs⟩ := by
          unfold tryI
          simp [hs, hq]
        simp [hs, callS_eq, ea, ca, hq, q_smallest_3]
        exact h1 _ _ ht
      · have ht : tryI false xs ys = none := by
          unfold tryI
          simp [hq]
        simp [hs, callS_eq, ea, ca, hq]
        exact h2 ht _ _
theorem smallest_eq {n : Int} {xs ys : List Int} (hx : Right n xs) (hy : Right n ys) : f_smallest [.im (tI xs), .im (tI ys)] = .ok (.im (optA (smallI xs ys))) [] := by
  refine eq_of_wpF ?_
  unfold f_smallest m_smallest b_smallest_8
  rw [wpF_fn]
  simp [q_smallest_6]
  have el : [PyData.tuple [.str "add", tI ys], PyData.tuple [.str "remove", tI xs]] = [true, false].map fun k => PyData.tuple [.str (wordS k), tI (if k then ys else xs)] := rfl
  rw [el]
  refine wp_ix (fun i e => (1 ≤ i → tryI true xs ys = none) ∧ (2 ≤ i → tryI false xs ys = none) ∧ ∃ t2 t3 t4 t5 t6 : Sl, e = [.im (tI xs), .im (tI ys), t2, t3, t4, t5, t6]) ⟨by simp, by simp, _, _, _, _, _, rfl⟩ ?_ ?_
  · rintro i d e hd ⟨h1, h2, t2, t3, t4, t5, t6, rfl⟩
    match i, hd with
    | 0, hd =>
      simp at hd
      subst hd
      refine ⟨[.im (tI xs), .im (tI ys), .im (.str (wordS true)), .im (tI ys), t4, t5, t6], by simp, ?_⟩
      refine small_turn hx hy true t4 t5 t6 _ _ (fun o e ho => ?_) fun ho t4 t5 => ?_
      · unfold smallI
        rw [ho]
        exact rfl
      · exact ⟨fun _ => ho, (fun h => by omega), _, _, _, _, _, rfl⟩
    | 1, hd =>
      simp at hd
      subst hd
      refine ⟨[.im (tI xs), .im (tI ys), .im (.str (wordS false)), .im (tI xs), t4, t5, t6], by simp, ?_⟩
      refine small_turn hx hy false t4 t5 t6 _ _ (fun o e ho => ?_) fun ho t4 t5 => ?_
      · unfold smallI
        rw [ho, h1 (by omega)]
        exact rfl
      · exact ⟨fun _ => h1 (by omega), fun _ => ho, _, _, _, _, _, rfl⟩
    | i + 2, hd => simp at hd
  · rintro e ⟨h1, h2, t2, t3, t4, t5, t6, rfl⟩
    have e1 := h1 (by simp)
    have e2 := h2 (by simp)
    simp [q_smallest_7, smallI, e1, e2, optA, outsOf]
theorem single_eq {n : Int} {xs ys : List Int} (hx : Right n xs) (hy : Right n ys) : f_single_operation [.im (stD n xs), .im (stD n ys)] = .ok (.im (optA (smallI xs ys))) [] := by
  refine eq_of_wpF ?_
  have h1 := require_both_eq hx hy
  have h2 := smallest_eq hx hy
  unfold f_single_operation m_single_operation
  rw [wpF_fn]
  simp [b_single_operation_3, q_single_operation_1, q_single_operation_2, callS_eq, h1, h2, outsOf]
def pow2 : Nat → Int
  | 0 => 1
  | m + 1 => pow2 m * 2
theorem gIMul_R {i j : Int} (h : -(2 ^ 64) < j) (h2 : j < 2 ^ 64) : gIMul (.im (.int i)) (.im (.int j)) = some (.im (.int (i * j))) := if_pos (.inr ⟨h, h2⟩)
theorem sets_of_eq (m : Nat) (h : m ≤ 50) : f_sets_of [.im (.int m)] = .ok (.im (.int (pow2 m))) [] := by
  refine eq_of_wpF ?_
  unfold f_sets_of m_sets_of b_sets_of_5
  rw [wpF_fn]
  have e1 : ((m : Int) ≤ 1000000 ∧ (-1000000 : Int) ≤ (m : Int)) := by omega
  simp [q_sets_of_1, q_sets_of_3, mRng1, e1]
  refine wp_ix (fun i e => ∃ t, e = [.im (.int m), .im (.int (pow2 i)), t]) ⟨.no, rfl⟩ ?_ ?_
  · rintro i d e hd ⟨t, rfl⟩
    refine ⟨_, tN_ok (by simp) (by decide), ?_⟩
    have g : gIMul (.im (.int (pow2 i))) (.im (.int 2)) = some (.im (.int (pow2 (i + 1)))) := gIMul_R (by decide) (by decide)
    generalize pow2 i = a at *
    generalize pow2 (i + 1) = b at *
    simp [q_sets_of_2, sAug, g]
  · rintro e ⟨t, rfl⟩
    rw [rangeD_length]
    generalize pow2 m = a at *
    simp [q_sets_of_4]
def countI (n : Int) (xs ys : List Int) : Int := if xs = ys then pow2 xs.length - 1 + pow2 (n.toNat - xs.length) - 1 else match smallI xs ys with
  | none => 0
  | some o => pow2 (if o.add then xs.length else n.toNat - xs.length)
theorem isNon_optA (o : Option Act) : isNon (optA o) = o.isNone := by cases o <;> rfl
theorem right_len {n : Int} {xs : List Int} (h : Right n xs) : xs.length ≤ n.toNat := by
  have key : ∀ (k : Nat) (xs : List Int), xs.Nodup → (∀ x ∈ xs, 1 ≤ x ∧ x ≤ (k : Int)) → xs.length ≤ k := by
    intro k
    induction k with
    | zero =>
      intro xs _ hm
      cases xs with
      | nil => exact Nat.le_refl _
      | cons x r => have := hm x List.mem_cons_self; omega
    | succ k ih =>
      intro xs nd hm
      have h1 := ih (xs.erase ((k : Int) + 1)) (nd.erase _) fun x hx => by
        have hx' := (nd.mem_erase_iff).mp hx
        have := hm x hx'.2
        omega
      have h2 := List.length_erase (a := (k : Int) + 1) (l := xs)
      split at h2 <;> omega
  exact key n.toNat xs h.nd fun x hx => by have := h.mem x hx; omega
theorem count_eq {n : Int} {xs ys : List Int} (hx : Right n xs) (hy : Right n ys) : f_count_operations [.im (stD n xs), .im (stD n ys)] = .ok (.im (.int (countI n xs ys))) [] := by
  refine eq_of_wpF ?_
  have h0 := hx.lo
  have hl := right_len hx
  have h1 := require_both_eq hx hy
  have h2 := smallest_eq hx hy
  have h16 := hx.hi
  have s1 := sets_of_eq xs.length (by have := hx.len; omega)
  have s2 := sets_of_eq (n.toNat - xs.length) (by omega)
  have e2 : ((n.toNat - xs.length : Nat) : Int) = n - xs.length := by omega
  rw [e2] at s2
  unfold f_count_operations m_count_operations countI
  rw [wpF_fn]
  by_cases hq : xs = ys
  · subst hq
    simp [b_count_operations_9, q_count_operations_1, q_count_operations_2, q_count_operations_4, q_count_operations_3, callS_eq, h1, s1, s2, outsOf]
  · rw [if_neg hq]
    simp [b_count_operations_9, q_count_operations_1, q_count_operations_2, q_count_operations_4, q_count_operations_5, callS_eq, h1, h2, hq]
    cases hs : smallI xs ys with
    | none =>
      have gi : gIs (.im .none) (.im .none) = some (.im (.bool true)) := rfl
      simp [optA, q_count_operations_7, gi, q_count_operations_6]
    | some o =>
      have gi : gIs (.im (actD o)) (.im .none) = some (.im (.bool false)) := rfl
      have g := gEq_word o.add
      cases hk : o.add with
      | true =>
        rw [hk] at g
        simp [optA, q_count_operations_7, gi, q_count_operations_8, g, callS_eq, s1, hk]
      | false =>
        rw [hk] at g
        simp [optA, q_count_operations_7, gi, q_count_operations_8, g, callS_eq, s2, hk]
end TL

set_option maxRecDepth 100000
namespace TL
open PySem PySem.Spec L2 PL
open PySem.W (Datum Tup)

/-! ### how many sublists have a given part -/
def cntS (p : Int → Bool) (L t : List Int) : Nat := (lexS L).countP fun s => decide (s.filter p = t)
def cntE (p : Int → Bool) (L t : List Int) : Nat := cntS p L t + (if t = [] then 1 else 0)
theorem cntE_cons (p : Int → Bool) (x : Int) (r t : List Int) : cntE p (x :: r) t = (if p x = true then (match t with
    | [] => 0
    | y :: t' => if y = x then cntE p r t' else 0) else cntE p r t) + cntE p r t := by
  have e : cntS p (x :: r) t = (if ([x].filter p) = t then 1 else 0) + ((lexS r).countP fun s => decide ((x :: s).filter p = t)) + cntS p r t := by
    unfold cntS
    rw [show lexS (x :: r) = [x] :: ((lexS r).map fun s => x :: s) ++ lexS r from rfl]
    rw [List.countP_append, List.countP_cons, List.countP_map]
    have : ((fun s : List Int => decide (s.filter p = t)) ∘ fun s => x :: s) = fun s => decide ((x :: s).filter p = t) := rfl
    rw [this]
    simp only [decide_eq_true_eq]
    omega
  unfold cntE
  rw [e]
  by_cases hp : p x = true
  · rw [if_pos hp]
    have e1 : [x].filter p = [x] := by simp [hp]
    have e2 : (fun s : List Int => decide ((x :: s).filter p = t)) = fun s => decide (x :: s.filter p = t) := by
      funext s
      rw [List.filter_cons_of_pos hp]
    rw [e1, e2]
    cases t with
    | nil =>
      have : (lexS r).countP (fun s => decide (x :: s.filter p = [])) = 0 := by
        rw [List.countP_eq_zero]
        intro s _
        simp
      rw [this]
      simp
    | cons y t' =>
      dsimp only
      by_cases hy : y = x
      · subst hy
        rw [if_pos rfl]
        have : (lexS r).countP (fun s => decide (y :: s.filter p = y :: t')) = cntS p r t' := by
          unfold cntS
          refine List.countP_congr fun s _ => ?_
          simp
        rw [this]
        by_cases ht : t' = []
        · subst ht; simp; omega
        · have h3 : ¬ ([y] = y :: t') := fun z => ht (by injection z with _ z; exact z.symm)
          simp [ht, h3]
      · rw [if_neg hy]
        have : (lexS r).countP (fun s => decide (x :: s.filter p = y :: t')) = 0 := by
          rw [List.countP_eq_zero]
          intro s _
          simp
          intro z
          exact absurd z.symm hy
        rw [this]
        have h3 : ¬ ([x] = y :: t') := fun z => hy (by injection z with z _; exact z.symm)
        simp [h3]
  · rw [if_neg hp]
    have e1 : [x].filter p = [] := by simp [hp]
    have e2 : (fun s : List Int => decide ((x :: s).filter p = t)) = fun s => decide (s.filter p = t) := by
      funext s
      rw [List.filter_cons_of_neg hp]
    rw [e1, e2]
    show _ + cntS p r t + cntS p r t + _ = _
    by_cases ht : t = []
    · subst ht; simp; omega
    · have h3 : ¬ ([] = t) := fun z => ht z.symm
      simp [ht, h3]
theorem cntE_zero (p : Int → Bool) : ∀ (L t : List Int) (y : Int), y ∈ t → y ∉ L → cntE p L t = 0
  | [], t, y, h, _ => by
    have : t ≠ [] := by rintro rfl; cases h
    simp [cntE, cntS, lexS, this]
  | x :: r, t, y, h, hn => by
    have hr : y ∉ r := fun z => hn (List.mem_cons_of_mem _ z)
    have hx : y ≠ x := fun z => hn (by rw [z]; exact List.mem_cons_self)
    rw [cntE_cons, cntE_zero p r t y h hr]
    by_cases hp : p x = true
    · rw [if_pos hp]
      cases t with
      | nil => rfl
      | cons z t' =>
        dsimp only
        by_cases hz : z = x
        · rw [if_pos hz]
          have : y ∈ t' := by
            rcases List.mem_cons.mp h with e | e
            · exact absurd (e.trans hz) hx
            · exact e
          rw [cntE_zero p r t' y this hr]
        · rw [if_neg hz]
    · rw [if_neg hp]
theorem cntE_pow (p : Int → Bool) : ∀ (L t : List Int), L.Nodup → t.Sublist (L.filter p) → cntE p L t = 2 ^ (L.filter fun x => !p x).length
  | [], t, _, h => by
    have : t = [] := List.sublist_nil.mp h
    subst this
    rfl
  | x :: r, t, nd, h => by
    obtain ⟨n1, n2⟩ := List.nodup_cons.mp nd
    rw [cntE_cons]
    by_cases hp : p x = true
    · rw [if_pos hp, List.filter_cons_of_neg (by simp [hp])]
      rw [List.filter_cons_of_pos hp] at h
      cases t with
      | nil =>
        dsimp only
        rw [Nat.zero_add]
        exact cntE_pow p r [] n2 (List.nil_sublist _)
      | cons y t' =>
        dsimp only
        by_cases hy : y = x
        · subst hy
          rw [if_pos rfl]
          have hs : t'.Sublist (r.filter p) := List.cons_sublist_cons.mp h
          rw [cntE_pow p r t' n2 hs, cntE_zero p r (y :: t') y List.mem_cons_self n1]
          rfl
        · rw [if_neg hy, Nat.zero_add]
          have hs : (y :: t').Sublist (r.filter p) := by
            cases h with
            | cons _ k => exact k
            | cons_cons _ k => exact absurd rfl hy
          exact cntE_pow p r (y :: t') n2 hs
    · rw [if_neg hp, List.filter_cons_of_pos (by simp [hp]), List.length_cons, Nat.pow_succ]
      rw [List.filter_cons_of_neg hp] at h
      rw [cntE_pow p r t n2 h]
      omega
theorem cntS_pow {p : Int → Bool} {L t : List Int} (nd : L.Nodup) (h : t.Sublist (L.filter p)) (ht : t ≠ []) : cntS p L t = 2 ^ (L.filter fun x => !p x).length := by
  have := cntE_pow p L t nd h
  unfold cntE at this
  rw [if_neg ht] at this
  exact this
end TL

set_option maxRecDepth 100000
namespace TL
open PySem PySem.Spec L2 PL
open PySem.W (Datum Tup)

theorem asc_ext {a b : List Int} (ha : a.Pairwise (· < ·)) (hb : b.Pairwise (· < ·)) (h : ∀ x, x ∈ a ↔ x ∈ b) : a = b := by
  refine List.Perm.eq_of_pairwise (le := (· < ·)) (fun a b _ _ q1 q2 => by omega) ha hb ?_
  exact (List.perm_ext_iff_of_nodup (ha.imp fun h e => by omega) (hb.imp fun h e => by omega)).mpr h
theorem sortI_asc {l : List Int} (h : l.Pairwise (· < ·)) : sortI l = l :=
  asc_ext (sort_asc (h.imp fun h e => by omega)) h fun x => (sortI_perm l).mem_iff
theorem gain_mem {xs ys : List Int} {x : Int} : x ∈ gainI xs ys ↔ x ∈ ys ∧ x ∉ xs := by
  unfold gainI
  rw [(sortI_perm _).mem_iff, List.mem_filter]
  simp
def partB (xs : List Int) (k : Bool) (x : Int) : Bool := if k then !decide (x ∈ xs) else decide (x ∈ xs)
theorem after_add (xs s : List Int) : afterI xs ⟨true, s⟩ = xs ++ s.filter fun x => decide (x ∉ xs) := rfl
theorem after_rem (xs s : List Int) : afterI xs ⟨false, s⟩ = xs.filter fun x => decide (x ∉ s) := rfl
theorem try_add {n : Int} {xs s : List Int} (hx : Right n xs) (g : GoodAct n ⟨true, s⟩) (hq : afterI xs ⟨true, s⟩ ≠ xs) : tryI true xs (afterI xs ⟨true, s⟩) = some ⟨true, s.filter (partB xs true)⟩ := by
  have e0 : (s.filter fun x => decide (x ∉ xs)) = s.filter (partB xs true) := by
    refine List.filter_congr fun x _ => ?_
    simp [partB]
  have asc : (s.filter (partB xs true)).Pairwise (· < ·) := g.asc.filter _
  have eg : gainI xs (afterI xs ⟨true, s⟩) = s.filter (partB xs true) := by
    unfold gainI
    have : (afterI xs ⟨true, s⟩).filter (fun x => !decide (x ∈ xs)) = s.filter (partB xs true) := by
      rw [after_add, List.filter_append, e0]
      have e1 : xs.filter (fun x => !decide (x ∈ xs)) = [] := by
        rw [List.filter_eq_nil_iff]
        intro x hx
        simp [hx]
      rw [e1, List.nil_append, List.filter_filter]
      refine List.filter_congr fun x _ => ?_
      simp [partB]
    rw [this]
    exact sortI_asc asc
  have ne : s.filter (partB xs true) ≠ [] := fun z => hq (by rw [after_add, e0, z, List.append_nil])
  have ea : afterI xs ⟨true, s.filter (partB xs true)⟩ = afterI xs ⟨true, s⟩ := by
    rw [after_add, after_add, e0, List.filter_filter]
    congr 1
    refine List.filter_congr fun x _ => ?_
    simp [partB]
  unfold tryI
  simp only [if_true, eg]
  rw [if_pos ⟨ne, ea⟩]
theorem try_rem {n : Int} {xs s : List Int} (hx : Right n xs) (g : GoodAct n ⟨false, s⟩) (hq : afterI xs ⟨false, s⟩ ≠ xs) : tryI false xs (afterI xs ⟨false, s⟩) = some ⟨false, s.filter (partB xs false)⟩ := by
  have asc : (s.filter (partB xs false)).Pairwise (· < ·) := g.asc.filter _
  have eg : gainI (afterI xs ⟨false, s⟩) xs = s.filter (partB xs false) := by
    refine asc_ext (sort_asc (hx.nd.filter _)) asc fun x => ?_
    have hm : x ∈ gainI (afterI xs ⟨false, s⟩) xs ↔ _ := gain_mem
    refine Iff.trans hm ?_
    rw [after_rem, List.mem_filter, List.mem_filter]
    simp [partB]
    constructor
    · rintro ⟨h1, h2⟩; exact ⟨h2 h1, h1⟩
    · rintro ⟨h1, h2⟩; exact ⟨h2, fun _ => h1⟩
  have ne : s.filter (partB xs false) ≠ [] := fun z => hq (by
    rw [after_rem]
    refine List.filter_eq_self.mpr fun x hx => ?_
    rw [decide_eq_true_eq]
    intro hs
    have : x ∈ s.filter (partB xs false) := List.mem_filter.mpr ⟨hs, by simp [partB, hx]⟩
    rw [z] at this
    cases this)
  have ea : afterI xs ⟨false, s.filter (partB xs false)⟩ = afterI xs ⟨false, s⟩ := by
    rw [after_rem, after_rem]
    refine List.filter_congr fun x hx => ?_
    simp [partB, hx]
  unfold tryI
  simp only [Bool.false_eq_true, if_false, eg]
  rw [if_pos ⟨ne, ea⟩]
theorem try_some {k : Bool} {xs ys : List Int} {o : Act} (h : tryI k xs ys = some o) : o.add = k ∧ afterI xs o = ys ∧ o.items = (if k then gainI xs ys else gainI ys xs) ∧ o.items ≠ [] := by
  unfold tryI at h
  dsimp only at h
  generalize (if k then gainI xs ys else gainI ys xs) = s at h ⊢
  by_cases hc : s ≠ [] ∧ afterI xs ⟨k, s⟩ = ys
  · rw [if_pos hc] at h
    have h := Option.some.inj h
    subst h
    exact ⟨rfl, hc.2, rfl, hc.1⟩
  · rw [if_neg hc] at h
    cases h
theorem add_long {xs ys s : List Int} (h : afterI xs ⟨true, s⟩ = ys) : xs.length ≤ ys.length := by
  rw [← h, after_add, List.length_append]; omega
theorem rem_short {xs ys s : List Int} (h : afterI xs ⟨false, s⟩ = ys) : ys.length ≤ xs.length := by
  rw [← h, after_rem]; exact List.length_filter_le _ _
theorem len_add {xs ys s : List Int} (h : afterI xs ⟨true, s⟩ = ys) (hq : ys ≠ xs) : xs.length < ys.length := by
  have := add_long h
  rw [← h, after_add] at this hq ⊢
  rw [List.length_append]
  have : (s.filter fun x => decide (x ∉ xs)) ≠ [] := fun z => hq (by rw [z, List.append_nil])
  have := List.length_pos_iff.mpr this
  omega
theorem len_rem {xs ys s : List Int} (h : afterI xs ⟨false, s⟩ = ys) (hq : ys ≠ xs) : ys.length < xs.length := by
  have h1 := rem_short h
  rcases Nat.lt_or_ge ys.length xs.length with h2 | h2
  · exact h2
  · exfalso
    apply hq
    rw [← h, after_rem] at h2 ⊢
    exact List.filter_sublist.eq_of_length (by have := List.length_filter_le (fun x => decide (x ∉ s)) xs; omega)
/-- one operation, performed: the smallest one -/
theorem small_of {n : Int} {xs ys : List Int} {a : Act} (hx : Right n xs) (g : GoodAct n a) (h : afterI xs a = ys) (hq : ys ≠ xs) : smallI xs ys = some ⟨a.add, a.items.filter (partB xs a.add)⟩ := by
  obtain ⟨k, s⟩ := a
  cases k with
  | true =>
    have q := try_add hx g (by rw [h]; exact hq)
    rw [h] at q
    unfold smallI
    rw [q]
    rfl
  | false =>
    have q := try_rem hx g (by rw [h]; exact hq)
    rw [h] at q
    have l := len_rem h hq
    have no : tryI true xs ys = none := by
      cases ht : tryI true xs ys with
      | none => rfl
      | some o =>
        exfalso
        obtain ⟨h1, h2, _⟩ := try_some ht
        obtain ⟨k, t⟩ := o
        dsimp only at h1
        subst h1
        have := add_long h2
        omega
    unfold smallI
    rw [no, q]
    rfl
theorem small_some {n : Int} {xs ys : List Int} {o : Act} (hx : Right n xs) (hy : Right n ys) (h : smallI xs ys = some o) : GoodAct n o ∧ afterI xs o = ys := by
  unfold smallI at h
  cases ht : tryI true xs ys with
  | some p =>
    rw [ht] at h
    have h : p = o := Option.some.inj h
    subst h
    obtain ⟨h1, h2, h3, h4⟩ := try_some ht
    refine ⟨?_, h2⟩
    have := gain_good (xs := xs) hy true (by rw [h3] at h4; exact h4)
    obtain ⟨k, s⟩ := p
    dsimp only at h1 h3
    subst h1
    rw [h3]
    exact this
  | none =>
    rw [ht] at h
    have h : tryI false xs ys = some o := h
    obtain ⟨h1, h2, h3, h4⟩ := try_some h
    refine ⟨?_, h2⟩
    have := gain_good (xs := ys) hx false (by rw [h3] at h4; exact h4)
    obtain ⟨k, s⟩ := o
    dsimp only at h1 h3
    subst h1
    rw [h3]
    exact this
theorem small_self (xs : List Int) : smallI xs xs = none := by
  have e : gainI xs xs = [] := by
    unfold gainI
    have : xs.filter (fun x => !decide (x ∈ xs)) = [] := by
      rw [List.filter_eq_nil_iff]
      intro x hx
      simp [hx]
    rw [this]
    rfl
  unfold smallI tryI
  simp [e]
/-- how many operations -/
theorem in_len {n : Int} {xs : List Int} (h : Right n xs) : ((ups n).filter fun x => decide (x ∈ xs)).length = xs.length := by
  refine List.Perm.length_eq ((List.perm_ext_iff_of_nodup ((ups_nodup n).filter _) h.nd).mpr fun x => ?_)
  rw [List.mem_filter, decide_eq_true_eq, mem_ups]
  exact ⟨fun q => q.2, fun q => ⟨h.mem x q, q⟩⟩
theorem out_len {n : Int} {xs : List Int} (h : Right n xs) : ((ups n).filter fun x => !decide (x ∈ xs)).length = n.toNat - xs.length := by
  have h1 := in_len h
  have h2 := ups_length n
  have h3 : ∀ (p : Int → Bool) (l : List Int), (l.filter p).length + (l.filter fun x => !p x).length = l.length := by
    intro p l
    induction l with
    | nil => rfl
    | cons a l ih =>
      by_cases hp : p a = true
      · rw [List.filter_cons_of_pos hp, List.filter_cons_of_neg (by simp [hp]), List.length_cons, List.length_cons]; omega
      · rw [List.filter_cons_of_neg hp, List.filter_cons_of_pos (by simp [hp]), List.length_cons, List.length_cons]; omega
  have := h3 (fun x => decide (x ∈ xs)) (ups n)
  omega
theorem pow2_eq (m : Nat) : pow2 m = ((2 ^ m : Nat) : Int) := by
  induction m with
  | zero => rfl
  | succ m ih =>
    rw [pow2, ih, Nat.pow_succ]
    omega
def goodI (n : Int) (xs ys : List Int) : List Act := (actsI n).filter fun a => decide (afterI xs a = ys)
theorem good_split (n : Int) (xs ys : List Int) : (goodI n xs ys).length = ((setsI n).countP fun s => decide (afterI xs ⟨true, s⟩ = ys)) + (setsI n).countP fun s => decide (afterI xs ⟨false, s⟩ = ys) := by
  unfold goodI actsI
  rw [List.filter_append, List.length_append, ← List.countP_eq_length_filter, ← List.countP_eq_length_filter, List.countP_map, List.countP_map]
  rfl
theorem part_not {n : Int} {xs : List Int} (h : Right n xs) (k : Bool) : ((ups n).filter fun x => !partB xs k x).length = if k then xs.length else n.toNat - xs.length := by
  cases k with
  | true =>
    rw [← in_len h]
    simp [partB]
  | false =>
    rw [← out_len h]
    simp [partB]
theorem good_len {n : Int} {xs ys : List Int} (hx : Right n xs) (hy : Right n ys) : ((goodI n xs ys).length : Int) = countI n xs ys := by
  have iff_set : ∀ (k : Bool) (s t : List Int), s ∈ setsI n → t.Pairwise (· < ·) → (∀ x ∈ t, partB xs k x = true) → (afterI xs ⟨k, s⟩ = afterI xs ⟨k, t⟩ ↔ s.filter (partB xs k) = t) := by
    intro k s t hs ht hp
    have ha : s.Pairwise (· < ·) := (acts_good (n := n) (o := ⟨true, s⟩) (by unfold actsI; exact List.mem_append_left _ (List.mem_map_of_mem hs))).asc
    have et : t.filter (partB xs k) = t := List.filter_eq_self.mpr hp
    cases k with
    | true =>
      rw [after_add, after_add, List.append_cancel_left_eq]
      have e1 : (s.filter fun x => decide (x ∉ xs)) = s.filter (partB xs true) := List.filter_congr fun x _ => by simp [partB]
      have e2 : (t.filter fun x => decide (x ∉ xs)) = t.filter (partB xs true) := List.filter_congr fun x _ => by simp [partB]
      rw [e1, e2, et]
    | false =>
      rw [after_rem, after_rem]
      constructor
      · intro h
        refine asc_ext (ha.filter _) ht fun x => ?_
        rw [List.mem_filter]
        constructor
        · rintro ⟨h1, h2⟩
          have hxm : x ∈ xs := by simpa [partB] using h2
          refine Classical.byContradiction fun z => ?_
          have : x ∈ xs.filter fun x => decide (x ∉ t) := List.mem_filter.mpr ⟨hxm, by simp [z]⟩
          rw [← h, List.mem_filter] at this
          simp [h1] at this
        · intro h1
          have h2 := hp x h1
          have hxm : x ∈ xs := by simpa [partB] using h2
          refine ⟨Classical.byContradiction fun z => ?_, h2⟩
          have : x ∈ xs.filter fun x => decide (x ∉ s) := List.mem_filter.mpr ⟨hxm, by simp [z]⟩
          rw [h, List.mem_filter] at this
          simp [h1] at this
      · intro h
        refine List.filter_congr fun x hxm => ?_
        have : x ∈ t ↔ x ∈ s := by
          rw [← h, List.mem_filter]
          simp [partB, hxm]
        simp [this]
  have cnt : ∀ (k : Bool) (t : List Int), t.Pairwise (· < ·) → (∀ x ∈ t, partB xs k x = true ∧ 1 ≤ x ∧ x ≤ n) → ((setsI n).countP fun s => decide (afterI xs ⟨k, s⟩ = afterI xs ⟨k, t⟩)) + (if t = [] then 1 else 0) = 2 ^ (if k then xs.length else n.toNat - xs.length) := by
    intro k t ht hp
    have e : ((setsI n).countP fun s => decide (afterI xs ⟨k, s⟩ = afterI xs ⟨k, t⟩)) = cntS (partB xs k) (ups n) t := by
      refine List.countP_congr fun s hs => ?_
      rw [decide_eq_true_eq, decide_eq_true_eq]
      exact iff_set k s t hs ht fun x h => (hp x h).1
    rw [e]
    have sub : t.Sublist ((ups n).filter (partB xs k)) := by
      have := (asc_sub (n := n) (s := t) (fun x h => (hp x h).2) ht).filter (partB xs k)
      rwa [List.filter_eq_self.mpr fun x h => (hp x h).1] at this
    have := cntE_pow (partB xs k) (ups n) t (ups_nodup n) sub
    rw [part_not hx] at this
    exact this
  rw [good_split]
  unfold countI
  by_cases hq : xs = ys
  · subst hq
    rw [if_pos rfl]
    have c1 := cnt true [] .nil (by simp)
    have c2 := cnt false [] .nil (by simp)
    have e1 : afterI xs ⟨true, []⟩ = xs := by simp [after_add]
    have e2 : afterI xs ⟨false, []⟩ = xs := by rw [after_rem]; exact List.filter_eq_self.mpr fun x _ => by simp
    rw [e1] at c1
    rw [e2] at c2
    simp only [if_true, Bool.false_eq_true, if_false] at c1 c2
    rw [pow2_eq, pow2_eq]
    omega
  · rw [if_neg hq]
    have hq' : ys ≠ xs := fun z => hq z.symm
    cases hs : smallI xs ys with
    | none =>
      have z : ∀ k : Bool, ((setsI n).countP fun s => decide (afterI xs ⟨k, s⟩ = ys)) = 0 := by
        intro k
        rw [List.countP_eq_zero]
        intro s hs' h
        rw [decide_eq_true_eq] at h
        have g : GoodAct n ⟨k, s⟩ := by
          refine acts_good ?_
          unfold actsI
          cases k with
          | true => exact List.mem_append_left _ (List.mem_map_of_mem hs')
          | false => exact List.mem_append_right _ (List.mem_map_of_mem hs')
        have := small_of hx g h hq'
        rw [hs] at this
        cases this
      rw [z true, z false]
      rfl
    | some o =>
      dsimp only
      obtain ⟨go, ha⟩ := small_some hx hy hs
      have so := small_of hx go ha hq'
      rw [hs] at so
      have eo : o.items = o.items.filter (partB xs o.add) := congrArg Act.items (Option.some.inj so)
      have c := cnt o.add o.items go.asc fun x h => ⟨by rw [eo] at h; exact (List.mem_filter.mp h).2, go.mem x h⟩
      have ea : afterI xs ⟨o.add, o.items⟩ = ys := ha
      rw [ea, if_neg go.ne] at c
      rw [pow2_eq]
      obtain ⟨k, t⟩ := o
      cases k with
      | true =>
        have z : ((setsI n).countP fun s => decide (afterI xs ⟨false, s⟩ = ys)) = 0 := by
          rw [List.countP_eq_zero]
          intro s _ h
          rw [decide_eq_true_eq] at h
          have := rem_short h
          have := len_add ha hq'
          omega
        rw [z]
        dsimp only at c ⊢
        rw [← c]
      | false =>
        have z : ((setsI n).countP fun s => decide (afterI xs ⟨true, s⟩ = ys)) = 0 := by
          rw [List.countP_eq_zero]
          intro s _ h
          rw [decide_eq_true_eq] at h
          have := add_long h
          have := len_rem ha hq'
          omega
        rw [z]
        dsimp only at c ⊢
        rw [← c]
        omega
end TL

set_option maxRecDepth 100000
namespace TL
open PySem PySem.Spec L2 PL
open PySem.W (Datum Tup)

/-! ### how many runs -/
def brk : List Int → Nat
  | x :: y :: r => (if x < y then 0 else 1) + brk (y :: r)
  | _ => 0
def nr (l : List Int) : Nat := if l = [] then 0 else 1 + brk l
theorem brk_snoc : ∀ (l : List Int) (x y : Int), l.getLast? = some y → brk (l ++ [x]) = brk l + if y < x then 0 else 1
  | [], _, _, h => by cases h
  | [a], x, y, h => by
    have h : a = y := by simpa using h
    subst h
    simp [brk]
  | a :: b :: r, x, y, h => by
    have h2 : (b :: r).getLast? = some y := by rw [← h]; simp
    have := brk_snoc (b :: r) x y h2
    simp only [List.cons_append, brk] at this ⊢
    omega
theorem runs_len : ∀ l : List Int, (runsI l).length = nr l := by
  intro l
  generalize hn : l.length = n
  induction n generalizing l with
  | zero =>
    obtain rfl := List.eq_nil_of_length_eq_zero hn
    rfl
  | succ n ih =>
    have ne : l ≠ [] := fun z => by subst z; cases hn
    obtain ⟨l, x, rfl⟩ : ∃ l' x, l = l' ++ [x] := ⟨l.dropLast, l.getLast ne, (List.dropLast_concat_getLast ne).symm⟩
    have hl : l.length = n := by simpa using hn
    have IH := ih l hl
    have e : runsI (l ++ [x]) = addRun (runsI l) x := by unfold runsI; rw [List.foldl_append]; rfl
    have R := runsI_ok l
    rw [e]
    unfold addRun
    have hnr : nr (l ++ [x]) = 1 + brk (l ++ [x]) := by unfold nr; rw [if_neg (by simp)]
    cases hq : (runsI l).getLast? with
    | none =>
      have : runsI l = [] := List.getLast?_eq_none_iff.mp hq
      have e0 : l = [] := by rw [← R.flat, this]; rfl
      subst e0
      rfl
    | some r =>
      have ne2 : runsI l ≠ [] := fun z => by rw [z] at hq; cases hq
      have hd : (runsI l) = (runsI l).dropLast ++ [r] := by
        have := List.dropLast_concat_getLast ne2
        rw [List.getLast?_eq_some_getLast ne2] at hq
        rw [← Option.some.inj hq]
        exact this.symm
      have hr : r ≠ [] := R.ne r (List.mem_of_getLast? hq)
      have fl := R.flat
      rw [hd, List.flatten_append] at fl
      have gl : l.getLast? = r.getLast? := by
        rw [← fl]
        simp only [List.flatten_cons, List.flatten_nil, List.append_nil]
        rw [List.getLast?_append]
        cases h : r.getLast? with
        | none => exact absurd (List.getLast?_eq_none_iff.mp h) hr
        | some y => rfl
      have l0 : l ≠ [] := fun z => by
        rw [z] at gl
        have : r.getLast? = none := gl.symm
        exact hr (List.getLast?_eq_none_iff.mp this)
      have hnl : nr l = 1 + brk l := by unfold nr; rw [if_neg l0]
      cases hy : r.getLast? with
      | none => exact absurd (List.getLast?_eq_none_iff.mp hy) hr
      | some y =>
        have bs := brk_snoc l x y (gl.trans hy)
        have ld : (runsI l).dropLast.length + 1 = (runsI l).length := by
          have := congrArg List.length hd
          simp only [List.length_append, List.length_singleton] at this
          omega
        dsimp only
        rw [hy]
        dsimp only
        by_cases h : y < x
        · rw [if_pos h] at bs ⊢
          simp only [List.length_append, List.length_singleton]
          omega
        · rw [if_neg h] at bs ⊢
          simp only [List.length_append, List.length_singleton]
          omega
theorem brk_sub : ∀ (l l' : List Int) (a : Int), l'.Sublist l → brk (a :: l') ≤ brk (a :: l)
  | [], l', a, h => by rw [List.sublist_nil.mp h]; exact Nat.le_refl _
  | z :: t, l', a, h => by
    cases h with
    | cons _ h =>
      have h1 := brk_sub t l' z h
      have h2 : brk (a :: l') ≤ (if a < z then 0 else 1) + brk (z :: l') := by
        cases l' with
        | nil => simp [brk]
        | cons y t' =>
          simp only [brk]
          by_cases h1 : a < y
          · rw [if_pos h1]; split <;> split <;> omega
          · rw [if_neg h1]
            by_cases h2 : a < z
            · rw [if_neg (show ¬ z < y by omega)]; split <;> omega
            · rw [if_neg h2]; split <;> omega
      simp only [brk] at h2 ⊢
      omega
    | @cons_cons t' _ _ h =>
      have h1 := brk_sub t t' z h
      simp only [brk]
      omega
theorem nr_sub {l l' : List Int} (h : l'.Sublist l) : nr l' ≤ nr l := by
  unfold nr
  by_cases e : l' = []
  · rw [if_pos e]; omega
  · rw [if_neg e]
    have e2 : l ≠ [] := fun z => e (List.sublist_nil.mp (z ▸ h))
    rw [if_neg e2]
    cases l with
    | nil => exact absurd rfl e2
    | cons z t =>
      cases h with
      | cons _ h =>
        have h1 := brk_sub t l' z h
        have h2 : brk l' ≤ brk (z :: l') := by
          cases l' with
          | nil => exact absurd rfl e
          | cons y t' => simp only [brk]; omega
        omega
      | cons_cons _ h =>
        have h1 := brk_sub t _ z h
        omega
theorem nr_append (a b : List Int) : nr (a ++ b) ≤ nr a + nr b := by
  have go : ∀ a : List Int, a ≠ [] → brk (a ++ b) ≤ brk a + nr b := by
    intro a
    induction a with
    | nil => intro h; exact absurd rfl h
    | cons x r ih =>
      intro _
      cases r with
      | nil =>
        cases b with
        | nil => simp [brk, nr]
        | cons y t =>
          have e : nr (y :: t) = 1 + brk (y :: t) := by unfold nr; rw [if_neg (by simp)]
          rw [e]
          simp only [List.cons_append, List.nil_append, brk]
          split <;> omega
      | cons y r =>
        have := ih (by simp)
        simp only [List.cons_append, brk] at this ⊢
        omega
  by_cases e : a = []
  · subst e; simp
  · have h1 := go a e
    have h2 : nr (a ++ b) = 1 + brk (a ++ b) := by unfold nr; rw [if_neg (by simp [e])]
    have h3 : nr a = 1 + brk a := by unfold nr; rw [if_neg e]
    omega
theorem nr_asc {l : List Int} (h : l.Pairwise (· < ·)) : nr l ≤ 1 := by
  have go : brk l = 0 := by
    induction l with
    | nil => rfl
    | cons x r ih =>
      obtain ⟨h1, h2⟩ := List.pairwise_cons.mp h
      cases r with
      | nil => rfl
      | cons y r =>
        simp only [brk]
        rw [if_pos (h1 y List.mem_cons_self), ih h2]
  unfold nr
  split <;> omega
/-! ### the longest beginning is the longest -/
theorem kept_mono (ys : List Int) : ∀ (xs found : List Int), found.length ≤ (xs.foldl (keptF ys) found).length
  | [], _ => Nat.le_refl _
  | x :: xs, found => by
    have := kept_mono ys xs (keptF ys found x)
    have h2 : found.length ≤ (keptF ys found x).length := by unfold keptF; split <;> simp
    rw [List.foldl_cons]
    omega
theorem kept_best (ys : List Int) : ∀ (xs found : List Int) (m : Nat), found.length + m ≤ ys.length → ((ys.drop found.length).take m).Sublist xs → found.length + m ≤ (xs.foldl (keptF ys) found).length
  | [], found, m, hm, h => by
    have h := List.sublist_nil.mp h
    have hl := congrArg List.length h
    simp only [List.length_take, List.length_drop, List.length_nil] at hl
    show found.length + m ≤ found.length
    omega
  | x :: xs, found, 0, hm, h => by
    have := kept_mono ys (x :: xs) found
    omega
  | x :: xs, found, m + 1, hm, h => by
    have hf : found.length < ys.length := by omega
    rw [List.drop_eq_getElem_cons hf, List.take_succ_cons] at h
    rw [List.foldl_cons]
    by_cases e : ys[found.length] = x
    · have e2 : keptF ys found x = found ++ [x] := by unfold keptF; rw [if_pos (by rw [List.getElem?_eq_getElem hf, e])]
      have l2 : (keptF ys found x).length = found.length + 1 := by rw [e2]; simp
      have := kept_best ys xs (keptF ys found x) m (by omega) (by
        rw [l2]
        cases h with
        | cons _ h => exact (List.sublist_cons_self _ _).trans h
        | cons_cons _ h => exact h)
      omega
    · have e2 : keptF ys found x = found := by unfold keptF; rw [if_neg (by rw [List.getElem?_eq_getElem hf]; simpa using e)]
      rw [e2]
      refine kept_best ys xs found (m + 1) hm ?_
      rw [List.drop_eq_getElem_cons hf, List.take_succ_cons]
      cases h with
      | cons _ h => exact h
      | cons_cons _ h => exact absurd rfl e
theorem kept_opt {xs ys : List Int} {m : Nat} (hm : m ≤ ys.length) (h : (ys.take m).Sublist xs) : m ≤ (keptI xs ys).length := by
  have := kept_best ys xs [] m (by simpa using hm) (by simpa using h)
  simpa [keptI] using this
/-! ### one operation changes a distance by one at most -/
def fstI (c y : List Int) : Int := if keptI c y = c then 0 else 1
theorem away_nr (c y : List Int) : awayI c y = fstI c y + nr (y.drop (keptI c y).length) := by
  unfold awayI fstI
  rw [runs_len]
theorem first_le (c y : List Int) : 0 ≤ fstI c y ∧ fstI c y ≤ 1 := by unfold fstI; split <;> omega
theorem away_step {n : Int} (c : List Int) {y : List Int} {o : Act} (g : GoodAct n o) : awayI c (afterI y o) ≤ awayI c y + 1 := by
  have pre := keptI_pre c y
  have kl := keptI_len c y
  have sub := keptI_sub c y
  have f1 := first_le c y
  have f2 := first_le c (afterI y o)
  obtain ⟨k, s⟩ := o
  have asc : s.Pairwise (· < ·) := g.asc
  cases k with
  | true =>
    rw [after_add] at *
    generalize hs : s.filter (fun x => decide (x ∉ y)) = s' at *
    have asc' : s'.Pairwise (· < ·) := by rw [← hs]; exact asc.filter _
    have pre' := keptI_pre c (y ++ s')
    have sub' := keptI_sub c (y ++ s')
    have kl' := keptI_len c (y ++ s')
    have ge : (keptI c y).length ≤ (keptI c (y ++ s')).length := by
      refine kept_opt (by rw [List.length_append]; omega) ?_
      rw [List.take_append_of_le_length kl, ← pre]
      exact sub
    rw [away_nr, away_nr]
    by_cases hk : (keptI c y).length < y.length
    · have le : (keptI c (y ++ s')).length ≤ (keptI c y).length := by
        refine Nat.le_of_not_lt fun z => ?_
        have := kept_opt (xs := c) (ys := y) (m := (keptI c y).length + 1) (by omega) (by
          have e : y.take ((keptI c y).length + 1) = (keptI c (y ++ s')).take ((keptI c y).length + 1) := by
            rw [pre', List.take_take, Nat.min_eq_left (by omega), List.take_append_of_le_length (by omega)]
          rw [e]
          exact (List.take_sublist _ _).trans sub')
        omega
      have el : (keptI c (y ++ s')).length = (keptI c y).length := Nat.le_antisymm le ge
      have ek : keptI c (y ++ s') = keptI c y := by
        rw [pre', el, List.take_append_of_le_length kl]
        exact pre.symm
      have ef : fstI c (y ++ s') = fstI c y := by unfold fstI; rw [ek]
      rw [ef, el, List.drop_append_of_le_length kl]
      have h1 := nr_append (y.drop (keptI c y).length) s'
      have h2 := nr_asc asc'
      omega
    · have ey : (keptI c y).length = y.length := by omega
      have ky : keptI c y = y := by rw [pre, ey, List.take_length]
      have hd : (y ++ s').drop (keptI c (y ++ s')).length = s'.drop ((keptI c (y ++ s')).length - y.length) := by
        rw [List.drop_append, List.drop_of_length_le (by omega), List.nil_append]
      have h1 : nr ((y ++ s').drop (keptI c (y ++ s')).length) ≤ 1 := by
        rw [hd]
        exact nr_asc (asc'.sublist (List.drop_sublist _ _))
      by_cases hc : y = c
      · have : fstI c (y ++ s') = 0 := by
          have l2 := sub'.length_le
          have l3 := sub.length_le
          have : keptI c (y ++ s') = c := by
            rw [pre', show (keptI c (y ++ s')).length = y.length by subst hc; omega, List.take_left]
            exact hc
          unfold fstI
          rw [if_pos this]
        omega
      · have : fstI c y = 1 := by
          unfold fstI
          rw [ky, if_neg hc]
        omega
  | false =>
    rw [after_rem] at *
    generalize hq : (fun x => decide (x ∉ s)) = q at *
    have pre' := keptI_pre c (y.filter q)
    have hy : y = keptI c y ++ y.drop (keptI c y).length := (keptI_drop c y).symm
    have hy' : y.filter q = (keptI c y).filter q ++ (y.drop (keptI c y).length).filter q := by
      conv => lhs; rw [hy]
      rw [List.filter_append]
    have hm : ((keptI c y).filter q).length ≤ (keptI c (y.filter q)).length := by
      refine kept_opt (by rw [hy', List.length_append]; omega) ?_
      rw [hy', List.take_left]
      exact List.filter_sublist.trans sub
    rw [away_nr, away_nr]
    have h1 : nr ((y.filter q).drop (keptI c (y.filter q)).length) ≤ nr (y.drop (keptI c y).length) := by
      have e : (y.filter q).drop (keptI c (y.filter q)).length = ((y.drop (keptI c y).length).filter q).drop ((keptI c (y.filter q)).length - ((keptI c y).filter q).length) := by
        conv => lhs; arg 2; rw [hy']
        rw [List.drop_append, List.drop_of_length_le hm, List.nil_append]
      rw [e]
      exact nr_sub ((List.drop_sublist _ _).trans List.filter_sublist)
    omega
theorem away_last {n : Int} (c : List Int) : ∀ (os : List Act) (y : List Int), (∀ o ∈ os, GoodAct n o) → awayI c (lastI y os) ≤ awayI c y + os.length
  | [], y, _ => by show awayI c y ≤ _; simp
  | o :: os, y, h => by
    have h1 := away_step c (y := y) (h o List.mem_cons_self)
    have h2 := away_last c os (afterI y o) fun o' ho => h o' (List.mem_cons_of_mem _ ho)
    have e : lastI y (o :: os) = lastI (afterI y o) os := rfl
    rw [e, List.length_cons]
    omega
/-- every list but the start has a forerunner -/
theorem away_pred {n : Int} {c x : List Int} (hc : Right n c) (hx : Right n x) (h : 0 < awayI c x) : ∃ y o, Right n y ∧ GoodAct n o ∧ afterI y o = x ∧ awayI c y = awayI c x - 1 := by
  have hl := script_len c x
  have hla := script_last hc hx
  have hg := script_good hc hx
  generalize scriptI c x = os at *
  have ne : os ≠ [] := fun z => by subst z; simp at hl; omega
  have ed := List.dropLast_concat_getLast ne
  have ld : os.dropLast.length = os.length - 1 := List.length_dropLast
  have gd : ∀ o ∈ os.dropLast, GoodAct n o := fun o ho => hg o (List.dropLast_subset _ ho)
  refine ⟨lastI c os.dropLast, os.getLast ne, hc.last gd, hg _ (List.getLast_mem ne), ?_, ?_⟩
  · rw [← hla]
    conv => rhs; rw [← ed]
    rw [last_append]
    rfl
  · have h1 := away_last c os.dropLast c gd
    have h0 : awayI c c = 0 := (away_zero c c).mpr rfl
    have h2 := away_step c (y := lastI c os.dropLast) (hg _ (List.getLast_mem ne))
    have e : afterI (lastI c os.dropLast) (os.getLast ne) = x := by
      rw [← hla]
      conv => rhs; rw [← ed]
      rw [last_append]
      rfl
    rw [e] at h2
    omega
end TL

set_option maxRecDepth 100000
namespace PL
open PySem PySem.Spec L2


/-! ### dicts, stepped -/
@[simp] theorem varG_odk (i : Nat) (kvs : List (Key × D)) (env : En) : varG i (some (.odk kvs)) env = .ok (.var i) env := rfl
@[simp] theorem varG_odt (i : Nat) (kvs : List (List Key × D)) (env : En) : varG i (some (.odt kvs)) env = .ok (.var i) env := rfl
@[simp] theorem viewG_odk (kvs : List (Key × D)) : viewG (some (.odk kvs)) = some (.odk kvs) := rfl
@[simp] theorem viewG_odt (kvs : List (List Key × D)) : viewG (some (.odt kvs)) = some (.odt kvs) := rfl
@[simp] theorem ownG_odk (kvs : List (Key × D)) : ownG (some (.odk kvs)) = some (.odk kvs) := rfl
@[simp] theorem ownG_odt (kvs : List (List Key × D)) : ownG (some (.odt kvs)) = some (.odt kvs) := rfl
@[simp] theorem toIG_odk (np j : Nat) (kvs : List (Key × D)) (env : En) (h : np ≤ j) : toIG np j (some (.odk kvs)) env = .ok (dkD kvs) (env.set j (.im (dkD kvs))) := if_pos h
@[simp] theorem toIG_odt (np j : Nat) (kvs : List (List Key × D)) (env : En) (h : np ≤ j) : toIG np j (some (.odt kvs)) env = .ok (dtD kvs) (env.set j (.im (dtD kvs))) := if_pos h
@[simp] theorem toI_tk (np : Nat) (kvs : List (Key × D)) (env : En) : toI np (.tmp (.odk kvs)) env = .ok (dkD kvs) env := rfl
@[simp] theorem toI_tt (np : Nat) (kvs : List (List Key × D)) (env : En) : toI np (.tmp (.odt kvs)) env = .ok (dtD kvs) env := rfl
@[simp] theorem retR_odk (kvs : List (Key × D)) (e : En) : retR (.odk kvs) e = .ok (.tmp (.odk kvs)) e := rfl
@[simp] theorem retR_odt (kvs : List (List Key × D)) (e : En) : retR (.odt kvs) e = .ok (.tmp (.odt kvs)) e := rfl
def putG (j : Nat) (o : Option Sl) (sk : Option Sl) (d : D) (e : En) : SR := match o, sk with
  | some (.odk kvs), some sk => (match keyS sk with
    | some k => if kvs.length < sizeLine then .nx (e.set j (.odk (putD kvs k d))) else .stuck
    | none => .stuck)
  | some (.odt kvs), some sk => (match keyT sk with
    | some k => if kvs.length < sizeLine then .nx (e.set j (.odt (putD kvs k d))) else .stuck
    | none => .stuck)
  | _, _ => .stuck
@[simp] theorem ap_putD (np j : Nat) (mk mv : M Rf) (env : En) : sPutD np j mk mv env = (mv env).toSR fun x e => (toI np x e).toSR fun d e => (mVar j e).toSR fun _ e => (mk e).toSR fun y e => putG j e[j]? (view e y) d e := rfl
theorem putG_t {j : Nat} {kvs : List (List Key × D)} {sk : Sl} {k : List Key} {d : D} {e : En} (h : keyT sk = some k) (hl : kvs.length < sizeLine) : putG j (some (.odt kvs)) (some sk) d e = .nx (e.set j (.odt (putD kvs k d))) := by
  unfold putG
  dsimp only
  rw [h]
  exact if_pos hl
theorem putG_k {j : Nat} {kvs : List (Key × D)} {sk : Sl} {k : Key} {d : D} {e : En} (h : keyS sk = some k) (hl : kvs.length < sizeLine) : putG j (some (.odk kvs)) (some sk) d e = .nx (e.set j (.odk (putD kvs k d))) := by
  unfold putG
  dsimp only
  rw [h]
  exact if_pos hl
def dispG (np : Nat) (o : Option Sl) (y : Rf) (e : En) : Res Rf := match o with
  | some sk => (match keyT sk with
    | some k => (toI np y e).bind fun d env3 => .ok (.tmp (.odt [(k, d)])) env3
    | none => .stuck)
  | none => .stuck
@[simp] theorem ap_disp1 (np : Nat) (mk mv : M Rf) (env : En) : mDisp1 np mk mv env = (mk env).bind fun x e => (mv e).bind fun y e2 => dispG np (view e2 x) y e2 := rfl
@[simp] theorem ap_dk (env : En) : mDK env = .ok (.tmp (.odk [])) env := rfl
@[simp] theorem ap_dt (env : En) : mDT env = .ok (.tmp (.odt [])) env := rfl
def getG (o sk : Option Sl) (z : Rf) (e : En) : Res Rf := match o, sk with
  | some sd, some sk => (match dGet sd sk with
    | some (some d) => .ok (.im d) e
    | some none => .ok z e
    | none => .stuck)
  | _, _ => .stuck
def isDG (o : Option Sl) (m : Res Rf) : Res Rf := match o with
  | some sd => (match asD sd with
    | some _ => m
    | none => .stuck)
  | none => .stuck
@[simp] theorem ap_dget2 (mo me mf : M Rf) (env : En) : mDGet2 mo me mf env = (mo env).bind fun x e1 => isDG (view e1 x) ((me e1).bind fun y e2 => (mf e2).bind fun z e3 => getG (view e3 x) (view e3 y) z e3) := rfl
theorem wpR_noX (r : SR) {N : En → Prop} {R : Sl → En → Prop} : wpR (noX r) N R = wpR r N R := by cases r <;> rfl
theorem ap_forD {j : Nat} {mt : MT} {body : MS} {env : En} {d : D} {ds : List D} (h : env[j]? = some (.im d)) (k : keysD d = some ds) : sForD j mt body env = noX (loopS mt body ds env) := by
  unfold sForD
  rw [h]
  dsimp only
  rw [k]
theorem ap_lcD {np : Nat} {vs : List Nat} {j : Nat} {mt : MT} {mc : M Bool} {me : M Rf} {env : En} {d : D} {ds : List D} (h : env[j]? = some (.im d)) (k : keysD d = some ds) :
    mLcD np vs j mt mc me env = (lcLoop np vs mt mc me ds (wipeE vs env)).bindN fun r e' => .ok (.tmp (.ol r)) e' := by
  unfold mLcD
  rw [h]
  dsimp only
  rw [k]
  rfl
/-- while -/
theorem wp_while {mc : M Bool} {body : MS} {N : En → Prop} {R : Sl → En → Prop} (I : Nat → En → Prop) {f m : Nat} {e : En} (h0 : I m e) (hf : m < f)
    (hs : ∀ k e, I k e → wpM (mc e) fun b e1 => (b = false → N e1) ∧ (b = true → ∃ k', k = k' + 1 ∧ wpR (body e1) (I k') R)) : wpR (whileS mc body f e) N R := by
  induction f generalizing m e with
  | zero => omega
  | succ f ih =>
    unfold whileS
    rw [wpR_toSR]
    refine wpM_mono (hs m e h0) fun b e1 ⟨h1, h2⟩ => ?_
    cases b with
    | false => exact h1 rfl
    | true =>
      obtain ⟨k', rfl, h3⟩ := h2 rfl
      dsimp only
      generalize body e1 = r at h3
      cases r with
      | nx e2 => exact ih (m := k') h3 (by omega)
      | rt s e2 => exact h3
      | bk e2 => exact h3.elim
      | ct e2 => exact h3.elim
      | exn c e2 => exact h3.elim
      | stuck => exact h3.elim
/-! ### tables of lists -/
abbrev Tab := List (List Int × Int)
def kvI (F : Tab) : List (List Key × D) := F.map fun p => (p.1.map Sum.inl, .int p.2)
def keysI (F : Tab) : List (List Int) := F.map (·.1)
def lookI (F : Tab) (x : List Int) : Option Int := (F.find? fun p => decide (p.1 = x)).map (·.2)
theorem keyT_tI (xs : List Int) : keyT (.im (tI xs)) = some (xs.map Sum.inl) := by
  have e : xs.map PyData.int = (xs.map Sum.inl).map kD := by rw [List.map_map]; rfl
  show unT (xs.map .int) = _
  rw [e, unT_map]
theorem inl_inj {xs ys : List Int} : (xs.map Sum.inl : List Key) = ys.map Sum.inl ↔ xs = ys := by
  constructor
  · intro h
    induction xs generalizing ys with
    | nil =>
      cases ys with
      | nil => rfl
      | cons y r => cases h
    | cons x r ih =>
      cases ys with
      | nil => cases h
      | cons y t =>
        rw [List.map_cons, List.map_cons] at h
        obtain ⟨h1, h2⟩ := List.cons.inj h
        rw [Sum.inl.inj h1, ih h2]
  · intro h; rw [h]
theorem valD_kvI (F : Tab) (xs : List Int) : valD (kvI F) (xs.map Sum.inl) = (lookI F xs).map PyData.int := by
  unfold valD lookI kvI
  induction F with
  | nil => rfl
  | cons p F ih =>
    rw [List.map_cons, List.find?_cons, List.find?_cons]
    by_cases h : p.1 = xs
    · simp [h]
    · have h2 : ¬ (p.1.map Sum.inl : List Key) = xs.map Sum.inl := fun z => h (inl_inj.mp z)
      simp only [h, h2, decide_false]
      exact ih
theorem any_kvI (F : Tab) (xs : List Int) : ((kvI F).any fun kv => decide (kv.1 = xs.map Sum.inl)) = decide (xs ∈ keysI F) := by
  unfold kvI keysI
  induction F with
  | nil => rfl
  | cons p F ih =>
    rw [List.map_cons, List.any_cons, ih, List.map_cons]
    by_cases h : p.1 = xs
    · simp [h]
    · have h2 : ¬ (p.1.map Sum.inl : List Key) = xs.map Sum.inl := fun z => h (inl_inj.mp z)
      have h3 : ¬ xs = p.1 := fun z => h z.symm
      simp [h2, h3]
theorem look_mem (F : Tab) (xs : List Int) : (lookI F xs).isSome = decide (xs ∈ keysI F) := by
  unfold lookI keysI
  induction F with
  | nil => rfl
  | cons p F ih =>
    rw [List.find?_cons, List.map_cons]
    by_cases h : p.1 = xs
    · simp [h]
    · have h3 : ¬ xs = p.1 := fun z => h z.symm
      simp only [h, decide_false, List.mem_cons, h3, false_or]
      exact ih
theorem look_some {F : Tab} {xs : List Int} {v : Int} (nd : (keysI F).Nodup) (h : (xs, v) ∈ F) : lookI F xs = some v := by
  unfold lookI
  unfold keysI at nd
  induction F with
  | nil => cases h
  | cons p F ih =>
    rw [List.map_cons, List.nodup_cons] at nd
    rw [List.find?_cons]
    rcases List.mem_cons.mp h with h | h
    · subst h; simp
    · have : ¬ p.1 = xs := fun z => nd.1 (by rw [z]; exact List.mem_map_of_mem (f := (·.1)) h)
      simp only [this, decide_false]
      exact ih nd.2 h
theorem putD_new {F : Tab} {xs : List Int} {v : Int} (h : xs ∉ keysI F) : putD (kvI F) (xs.map Sum.inl) (.int v) = kvI (F ++ [(xs, v)]) := by
  unfold putD
  rw [any_kvI, decide_eq_false h, if_neg Bool.false_ne_true]
  unfold kvI
  rw [List.map_append]
  rfl
theorem dGet_own (F : Tab) (xs : List Int) : dGet (.odt (kvI F)) (.im (tI xs)) = some ((lookI F xs).map PyData.int) := by
  unfold dGet
  show (keyT _).map _ = _
  rw [keyT_tI, Option.map_some, valD_kvI]
theorem dGet_im (F : Tab) (xs : List Int) : dGet (.im (dtD (kvI F))) (.im (tI xs)) = some ((lookI F xs).map PyData.int) := by
  unfold dGet
  rw [asD_dt]
  show (keyT _).map _ = _
  rw [keyT_tI, Option.map_some, valD_kvI]
@[simp] theorem gDNotIn_tab (F : Tab) (xs : List Int) : gDNotIn (.im (tI xs)) (.odt (kvI F)) = some (.im (.bool (!decide (xs ∈ keysI F)))) := by
  unfold gDNotIn
  rw [dGet_own, Option.map_some, ← look_mem, Option.isSome_map]
@[simp] theorem gDIn_tab (F : Tab) (xs : List Int) : gDIn (.im (tI xs)) (.odt (kvI F)) = some (.im (.bool (decide (xs ∈ keysI F)))) := by
  unfold gDIn
  rw [dGet_own, Option.map_some, ← look_mem, Option.isSome_map]
theorem gDIx_own (F : Tab) (xs : List Int) : gDIx (.odt (kvI F)) (.im (tI xs)) = (lookI F xs).map fun v => .im (.int v) := by
  unfold gDIx
  rw [dGet_own]
  cases lookI F xs <;> rfl
theorem gDIx_im (F : Tab) (xs : List Int) : gDIx (.im (dtD (kvI F))) (.im (tI xs)) = (lookI F xs).map fun v => .im (.int v) := by
  unfold gDIx
  rw [dGet_im]
  cases lookI F xs <;> rfl
theorem keysD_tab {F : Tab} (h : F.length ≤ sizeLine) : keysD (dtD (kvI F)) = some ((keysI F).map tI) := by
  have e1 : (kvI F).length = F.length := List.length_map ..
  unfold keysD dtD
  dsimp only
  rw [if_pos (by rw [List.length_map, e1]; exact h)]
  congr 1
  unfold kvI keysI
  rw [List.map_map, List.map_map, List.map_map]
  refine List.map_congr_left fun p _ => ?_
  show PyData.tuple _ = tI _
  unfold tI
  congr 1
  rw [List.map_map]
  rfl
theorem putG_tab {j : Nat} {F : Tab} {xs : List Int} {v : Int} {e : En} (h : xs ∉ keysI F) (hl : F.length < sizeLine) : putG j (some (.odt (kvI F))) (some (.im (tI xs))) (.int v) e = .nx (e.set j (.odt (kvI (F ++ [(xs, v)])))) := by
  have e1 : (kvI F).length = F.length := List.length_map ..
  rw [putG_t (keyT_tI xs) (by rw [e1]; exact hl), putD_new h]
theorem dispG_tab {np : Nat} {xs : List Int} {v : Int} {e : En} : dispG np (some (.im (tI xs))) (.im (.int v)) e = .ok (.tmp (.odt (kvI [(xs, v)]))) e := by
  unfold dispG
  dsimp only
  rw [keyT_tI]
  rfl
end PL

set_option maxRecDepth 100000
namespace TL
open PySem PySem.Spec L2 PL
open PySem.W (Datum Tup)

/-! ### the law's search, layer by layer -/
structure Lay (n : Int) (c : List Int) (d : Int) (F : Tab) (later : List (List Int)) : Prop where
  nd : (keysI F).Nodup
  ok : ∀ p ∈ F, Right n p.1 ∧ p.2 = awayI c p.1
  low : ∀ x, Right n x → awayI c x ≤ d → x ∈ keysI F
  hi : ∀ x ∈ keysI F, awayI c x ≤ d + 1
  lat : ∀ x, x ∈ later ↔ x ∈ keysI F ∧ awayI c x = d + 1
  len : later.length ≤ F.length
theorem keys_right {n : Int} {F : Tab} {c : List Int} (ok : ∀ p ∈ F, Right n p.1 ∧ p.2 = awayI c p.1) : ∀ x ∈ keysI F, Right n x := fun x hx => by
  obtain ⟨p, hp, rfl⟩ := List.mem_map.mp hx
  exact (ok p hp).1
theorem nodup_le {α : Type} [DecidableEq α] : ∀ {l m : List α}, l.Nodup → (∀ x ∈ l, x ∈ m) → l.length ≤ m.length
  | [], _, _, _ => Nat.zero_le _
  | x :: l, m, nd, h => by
    obtain ⟨h1, h2⟩ := List.nodup_cons.mp nd
    have := nodup_le (l := l) (m := m.erase x) h2 fun y hy => by
      have : y ≠ x := fun z => h1 (z ▸ hy)
      exact (List.mem_erase_of_ne this).mpr (h y (List.mem_cons_of_mem _ hy))
    have hm := h x List.mem_cons_self
    rw [List.length_erase_of_mem hm] at this
    have : 0 < m.length := List.length_pos_of_mem hm
    rw [List.length_cons]
    omega
theorem tab_len {n : Int} {F : Tab} (h1 : n ≤ 5) (nd : (keysI F).Nodup) (h : ∀ x ∈ keysI F, Right n x) : F.length ≤ 10000 := by
  have h0 : F.length = (keysI F).length := (List.length_map ..).symm
  by_cases e : keysI F = []
  · rw [h0, e]; decide
  · obtain ⟨x, hx⟩ := List.exists_mem_of_ne_nil _ e
    have hn := (h x hx).lo
    have h2 := nodup_le nd fun x hx => (all_mem hn (by omega)).mpr (h x hx)
    have h3 := found_len h1 n.toNat
    have h4 : 5 ^ n.toNat ≤ 5 ^ 5 := Nat.pow_le_pow_right (by decide) (by omega)
    omega
theorem Lay.add {n : Int} {c : List Int} {d : Int} {F : Tab} {later : List (List Int)} (L : Lay n c d F later) {old : List Int} {a : Act} (ho : Right n old) (hd : awayI c old = d) (g : GoodAct n a) (hx : afterI old a ∉ keysI F) :
    Lay n c d (F ++ [(afterI old a, d + 1)]) (later ++ [afterI old a]) := by
  have hr := ho.after g
  have st := away_step c (y := old) g
  have hd1 : awayI c (afterI old a) = d + 1 := by
    have : ¬ awayI c (afterI old a) ≤ d := fun z => hx (L.low _ hr z)
    omega
  have ek : keysI (F ++ [(afterI old a, d + 1)]) = keysI F ++ [afterI old a] := by unfold keysI; rw [List.map_append]; rfl
  refine ⟨?_, fun p hp => ?_, fun x h1 h2 => ?_, fun x h1 => ?_, fun x => ?_, ?_⟩
  · rw [ek]
    refine List.nodup_append.mpr ⟨L.nd, by simp, fun x hx' y hy e => ?_⟩
    rw [List.mem_singleton.mp hy] at e
    exact hx (e ▸ hx')
  · rcases List.mem_append.mp hp with h | h
    · exact L.ok p h
    · rw [List.mem_singleton.mp h]; exact ⟨hr, hd1.symm⟩
  · rw [ek]
    exact List.mem_append_left _ (L.low x h1 h2)
  · rw [ek] at h1
    rcases List.mem_append.mp h1 with h | h
    · exact L.hi x h
    · rw [List.mem_singleton.mp h]; omega
  · rw [ek, List.mem_append, List.mem_append, L.lat, List.mem_singleton]
    constructor
    · rintro (⟨h1, h2⟩ | h)
      · exact ⟨.inl h1, h2⟩
      · exact ⟨.inr h, by rw [h]; exact hd1⟩
    · rintro ⟨h1 | h1, h2⟩
      · exact .inl ⟨h1, h2⟩
      · exact .inr h1
  · have := L.len
    simp only [List.length_append, List.length_singleton]
    omega
/-- what is behind a search -/
structure Found (n : Int) (c : List Int) (F : Tab) : Prop where
  nd : (keysI F).Nodup
  mem : ∀ x, x ∈ keysI F ↔ Right n x
  val : ∀ p ∈ F, p.2 = awayI c p.1
theorem set_same {α : Type} : ∀ {l : List α} {i : Nat} {a : α}, l[i]? = some a → l.set i a = l
  | [], _, _, h => by simp at h
  | x :: l, 0, a, h => by simp at h; subst h; rfl
  | x :: l, i + 1, a, h => by
    rw [List.set_cons_succ, set_same (by simpa using h)]
theorem seqV {np i : Nat} {s : Sl} {ds : List D} {env : En} (h : env[i]? = some s) (hs : s = .ol ds ∨ s = .im (.list ds)) (hn : np ≤ i) : mSeq np (mVar i) env = .ok ds (env.set i (.im (.list ds))) := by
  rcases hs with rfl | rfl
  · simp [h, hn]
  · simp [h, set_same h]
theorem gNe_tIs {s : Sl} (L : List (List Int)) (hs : content s = some (.list (L.map tI))) : gNe s (.ol []) = some (.im (.bool (!decide (L = [])))) := by
  have e : (L.map fun x => (⟨x⟩ : Tup Int)).map Datum.toD = L.map tI := by rw [List.map_map]; rfl
  have := gNe_dat (α := List (Tup Int)) (s := s) (t := .ol []) (L.map fun x => ⟨x⟩) [] (by rw [hs, ← e]; rfl) rfl (by decide)
  rw [this]
  congr 4
  simp
section
variable {n : Int} {c : List Int} {d : Int}
theorem inner_ok (hn : n ≤ 4) {F : Tab} {later : List (List Int)} (L : Lay n c d F later) {old : List Int} (ho : Right n old) (hd : awayI c old = d) {s0 s1 l3 a5 t8 t9 : Sl} (ha : a5 = .ol ((actsI n).map actD) ∨ a5 = .im (.list ((actsI n).map actD))) (R : Sl → En → Prop) :
    wpR (q__law_layers_9 [s0, s1, .odt (kvI F), l3, .im (.int (d + 1)), a5, .ol (later.map tI), .im (tI old), t8, t9])
      (fun e => ∃ F' later' t8 t9, e = [s0, s1, .odt (kvI F'), l3, .im (.int (d + 1)), .im (.list ((actsI n).map actD)), .ol (later'.map tI), .im (tI old), t8, t9] ∧ Lay n c d F' later' ∧ (∀ x ∈ keysI F, x ∈ keysI F') ∧ ∀ a ∈ actsI n, afterI old a ∈ keysI F') R := by
  unfold q__law_layers_9
  rw [ap_for, seqV (i := 5) rfl ha (by decide), Res.toSR_ok]
  simp only [List.set_cons_succ, List.set_cons_zero]
  refine wp_ix (fun i e => ∃ F' later' t8 t9, e = [s0, s1, .odt (kvI F'), l3, .im (.int (d + 1)), .im (.list ((actsI n).map actD)), .ol (later'.map tI), .im (tI old), t8, t9] ∧ Lay n c d F' later' ∧ (∀ x ∈ keysI F, x ∈ keysI F') ∧ ∀ a ∈ (actsI n).take i, afterI old a ∈ keysI F')
    ⟨F, later, t8, t9, rfl, L, fun x h => h, by simp⟩ ?_ ?_
  · rintro i dd e hdd ⟨F', later', t8, t9, rfl, L', sub, don⟩
    rw [List.getElem?_map] at hdd
    obtain ⟨a, hai, rfl⟩ := Option.map_eq_some_iff.mp hdd
    have ga := acts_good (List.mem_of_getElem? hai)
    have c1 := law_after_eq ho ga
    have lF := tab_len (by omega) L'.nd (keys_right L'.ok)
    have lL := L'.len
    have hz : F'.length < sizeLine := by rw [sizeLine_eq]; omega
    have hz2 : later'.length < sizeLine := by rw [sizeLine_eq]; omega
    have tk : (actsI n).take (i + 1) = (actsI n).take i ++ [a] := by rw [List.take_add_one, hai]; rfl
    refine ⟨_, tN_ok (by simp) (by decide), ?_⟩
    rw [tk]
    by_cases hx : afterI old a ∈ keysI F'
    · simp [b__law_layers_8, q__law_layers_3, callS_eq, c1, q__law_layers_7, hx]
      refine ⟨F', later', by simp, L', sub, fun a' h' => ?_⟩
      rcases h' with h' | rfl
      · exact don a' h'
      · exact hx
    · have L2 := L'.add ho hd ga hx
      simp [b__law_layers_8, q__law_layers_3, callS_eq, c1, q__law_layers_7, hx, b__law_layers_6, q__law_layers_4, putG_tab hx hz, q__law_layers_5, mAppend, hz2]
      have ek : keysI (F' ++ [(afterI old a, d + 1)]) = keysI F' ++ [afterI old a] := by unfold keysI; rw [List.map_append]; rfl
      refine ⟨F' ++ [(afterI old a, d + 1)], later' ++ [afterI old a], ?_, L2, fun x h => ?_, fun a' h' => ?_⟩
      · simp
      · rw [ek]; exact List.mem_append_left _ (sub x h)
      · rw [ek]
        rcases h' with h' | rfl
        · exact List.mem_append_left _ (don a' h')
        · simp
  · rintro e ⟨F', later', t8, t9, rfl, L', sub, don⟩
    rw [List.length_map, List.take_length] at don
    exact ⟨F', later', t8, t9, rfl, L', sub, don⟩
structure Lvl (n : Int) (c : List Int) (d : Int) (F : Tab) (L : List (List Int)) : Prop where
  nd : (keysI F).Nodup
  ok : ∀ p ∈ F, Right n p.1 ∧ p.2 = awayI c p.1
  low : ∀ x, Right n x → awayI c x ≤ d → x ∈ keysI F
  hi : ∀ x ∈ keysI F, awayI c x ≤ d
  lay : ∀ x, x ∈ L ↔ Right n x ∧ awayI c x = d
theorem layer_ok (hn : n ≤ 4) (hc : Right n c) {F : Tab} {L : List (List Int)} (V : Lvl n c d F L) (d0 : 0 ≤ d) {s0 s1 l3 a5 t6 t7 t8 t9 : Sl} (h3 : l3 = .ol (L.map tI) ∨ l3 = .im (.list (L.map tI))) (ha : a5 = .ol ((actsI n).map actD) ∨ a5 = .im (.list ((actsI n).map actD))) (R : Sl → En → Prop) :
    wpR (b__law_layers_12 [s0, s1, .odt (kvI F), l3, .im (.int d), a5, t6, t7, t8, t9])
      (fun e => ∃ F' L' a5 t6 t7 t8 t9, e = [s0, s1, .odt (kvI F'), .im (.list (L'.map tI)), .im (.int (d + 1)), a5, t6, t7, t8, t9] ∧ (a5 = .ol ((actsI n).map actD) ∨ a5 = .im (.list ((actsI n).map actD))) ∧ Lvl n c (d + 1) F' L') R := by
  have L0 : Lay n c d F [] := ⟨V.nd, V.ok, V.low, fun x h => by have := V.hi x h; omega, fun x => ⟨fun h => (by cases h), fun ⟨h1, h2⟩ => by have := V.hi x h1; omega⟩, Nat.zero_le _⟩
  unfold b__law_layers_12
  simp [q__law_layers_2, toSs, toS]
  unfold q__law_layers_10
  rw [ap_for, seqV (i := 3) rfl h3 (by decide), Res.toSR_ok]
  simp only [List.set_cons_succ, List.set_cons_zero]
  refine wp_ix (fun i e => ∃ F' later' a5 t7 t8 t9, e = [s0, s1, .odt (kvI F'), .im (.list (L.map tI)), .im (.int (d + 1)), a5, .ol (later'.map tI), t7, t8, t9] ∧ (a5 = .ol ((actsI n).map actD) ∨ a5 = .im (.list ((actsI n).map actD))) ∧ Lay n c d F' later' ∧ (∀ x ∈ keysI F, x ∈ keysI F') ∧ ∀ old ∈ L.take i, ∀ a ∈ actsI n, afterI old a ∈ keysI F')
    ⟨F, [], a5, t7, t8, t9, by simp, ha, L0, fun x h => h, by simp⟩ ?_ ?_
  · rintro i dd e hdd ⟨F', later', a5, t7, t8, t9, rfl, ha, L', sub, don⟩
    rw [List.getElem?_map] at hdd
    obtain ⟨old, hoi, rfl⟩ := Option.map_eq_some_iff.mp hdd
    obtain ⟨ho, hd⟩ := (V.lay old).mp (List.mem_of_getElem? hoi)
    refine ⟨_, tN_ok (by simp) (by decide), ?_⟩
    have tk : L.take (i + 1) = L.take i ++ [old] := by rw [List.take_add_one, hoi]; rfl
    rw [tk]
    refine wpR_mono (inner_ok hn L' ho hd ha R) (fun e ⟨F2, later2, t8, t9, he, L2, sub2, don2⟩ => ?_) fun _ _ h => h
    refine ⟨F2, later2, _, _, _, _, he, .inr rfl, L2, fun x h => sub2 x (sub x h), fun o ho' a h => ?_⟩
    rcases List.mem_append.mp ho' with h' | h'
    · exact sub2 _ (don o h' a h)
    · rw [List.mem_singleton.mp h']; exact don2 a h
  · rintro e ⟨F', later', a5, t7, t8, t9, rfl, ha, L', sub, don⟩
    rw [List.length_map, List.take_length] at don
    simp [q__law_layers_11]
    have low' : ∀ x, Right n x → awayI c x ≤ d + 1 → x ∈ keysI F' := fun x hx h => by
      by_cases h1 : awayI c x ≤ d
      · exact L'.low x hx h1
      · obtain ⟨y, o, hy, ho, e1, e2⟩ := away_pred hc hx (by omega)
        rw [← e1]
        exact don y ((V.lay y).mpr ⟨hy, by omega⟩) o (good_acts ho)
    refine ⟨F', later', a5, ⟨rfl, rfl, rfl⟩, ha, L'.nd, L'.ok, low', L'.hi, fun x => ?_⟩
    rw [L'.lat]
    exact ⟨fun ⟨h1, h2⟩ => ⟨keys_right L'.ok x h1, h2⟩, fun ⟨h1, h2⟩ => ⟨low' x h1 (by omega), h2⟩⟩
end
theorem layers_eq {n : Int} {c : List Int} (hc : Right n c) (hn : n ≤ 4) : ∃ F : Tab, Found n c F ∧ f__law_layers [.im (.int n), .im (tI c)] = .ok (.odt (kvI F)) [] := by
  have h0 := hc.lo
  suffices h : wpF (f__law_layers [.im (.int n), .im (tI c)]) fun s o => o = [] ∧ ∃ F, Found n c F ∧ s = .odt (kvI F) by
    obtain ⟨s, o, e, rfl, F, hF, rfl⟩ := wpF_eq h
    exact ⟨F, hF, e⟩
  have c1 := law_actions_eq h0 (show n ≤ 5 by omega)
  unfold f__law_layers m__law_layers b__law_layers_15
  rw [wpF_fn]
  simp [q__law_layers_1, callS_eq, c1, toSs, toS, dispG_tab]
  have h00 : awayI c c = 0 := (away_zero c c).mpr rfl
  have V0 : Lvl n c 0 [(c, 0)] [c] := by
    refine ⟨by simp [keysI], fun p hp => ?_, fun x hx h => ?_, fun x hx => ?_, fun x => ?_⟩
    · rw [List.mem_singleton.mp hp]; exact ⟨hc, h00.symm⟩
    · have := (away_zero c x).mp (by have := (away_small (xs := c) hx).1; omega)
      simp [keysI, this]
    · have : x = c := by simpa [keysI] using hx
      subst this; omega
    · rw [List.mem_singleton]
      exact ⟨fun h => by rw [h]; exact ⟨hc, h00⟩, fun ⟨_, h⟩ => ((away_zero c x).mp h).symm⟩
  unfold q__law_layers_13
  refine wp_while (fun k e => ∃ (d : Nat) (F : Tab) (L : List (List Int)) (l3 a5 t6 t7 t8 t9 : Sl), e = [.im (.int n), .im (tI c), .odt (kvI F), l3, .im (.int (d : Nat)), a5, t6, t7, t8, t9] ∧ k + d = 18 ∧ (l3 = .ol (L.map tI) ∨ l3 = .im (.list (L.map tI))) ∧ (a5 = .ol ((actsI n).map actD) ∨ a5 = .im (.list ((actsI n).map actD))) ∧ Lvl n c (d : Nat) F L)
    (m := 18) ⟨0, [(c, 0)], [c], _, _, _, _, _, _, rfl, rfl, .inl rfl, .inl rfl, V0⟩ (by decide) ?_
  rintro k e ⟨d, F, L, l3, a5, t6, t7, t8, t9, rfl, hk, h3, ha, V⟩
  have g : ∀ s, l3 = s → gNe l3 (.ol []) = some (.im (.bool (!decide (L = [])))) := fun s _ => gNe_tIs L (by rcases h3 with h | h <;> rw [h] <;> rfl)
  have g := g _ rfl
  have vw : mVar 3 [.im (.int n), .im (tI c), .odt (kvI F), l3, .im (.int (d : Nat)), a5, t6, t7, t8, t9] = varG 3 (some l3) [.im (.int n), .im (tI c), .odt (kvI F), l3, .im (.int (d : Nat)), a5, t6, t7, t8, t9] := by simp
  have cond : wpM (mB (mOp2 gNe (mVar 3) (mLst 2 mNil)) [.im (.int n), .im (tI c), .odt (kvI F), l3, .im (.int (d : Nat)), a5, t6, t7, t8, t9]) fun b e1 => b = !decide (L = []) ∧ e1 = [.im (.int n), .im (tI c), .odt (kvI F), l3, .im (.int (d : Nat)), a5, t6, t7, t8, t9] := by
    rcases h3 with h | h
    · subst h; simp [g]
    · subst h; simp [g]
  refine wpM_mono cond fun b e1 ⟨hb, he⟩ => ?_
  subst hb he
  have all : ∀ m : Nat, L = [] → ∀ x, Right n x → awayI c x = (d : Int) + m → False := by
    intro m hL
    induction m with
    | zero =>
      intro x hx h
      have := (V.lay x).mpr ⟨hx, by omega⟩
      rw [hL] at this
      cases this
    | succ m ih =>
      intro x hx h
      obtain ⟨y, o, hy, _, _, e2⟩ := away_pred hc hx (by omega)
      exact ih y hy (by omega)
  refine ⟨fun hL => ?_, fun hL => ?_⟩
  · have hL : L = [] := by simpa using hL
    simp [q__law_layers_14]
    refine ⟨F, ⟨V.nd, fun x => ⟨fun h => keys_right V.ok x h, fun h => ?_⟩, fun p hp => (V.ok p hp).2⟩, rfl⟩
    by_cases h1 : awayI c x ≤ d
    · exact V.low x h h1
    · exact absurd (show awayI c x = (d : Int) + ((awayI c x - d).toNat : Nat) by omega) (all _ hL x h)
  · have hL : L ≠ [] := by simpa using hL
    obtain ⟨x, hx⟩ := List.exists_mem_of_ne_nil _ hL
    obtain ⟨hxr, hxd⟩ := (V.lay x).mp hx
    have := (away_small (xs := c) hxr).2
    obtain ⟨k, rfl⟩ : ∃ k', k = k' + 1 := ⟨k - 1, by omega⟩
    refine ⟨k, rfl, wpR_mono (layer_ok hn hc V (by omega) h3 ha _) (fun e ⟨F', L', a5, t6, t7, t8, t9, he, ha', V'⟩ => ?_) fun _ _ h => h⟩
    exact ⟨d + 1, F', L', _, a5, t6, t7, t8, t9, he, by omega, .inr rfl, ha', by exact_mod_cast V'⟩
end TL

set_option maxRecDepth 100000
namespace PL
open PySem PySem.Spec L2
theorem lc2_all {α β : Type} {np : Nat} {vs vs1 : List Nat} {mt mt1 : MT} {mc1 : M Bool} {mi1 : M (List D)} {me : M Rf} (enc : α → D) (it : α → List β) (encB g : α → β → D) {E : En} : ∀ {L : List α} {n : Nat}, n + (L.flatMap it).length ≤ sizeLine →
    (∀ x ∈ L, ∃ e1, mt (enc x) E = some e1 ∧ wpM (mi1 e1) fun ds1 e3 => ds1 = (it x).map (encB x) ∧ wpM (lcLoop np vs1 mt1 mc1 me ds1 (wipeE vs1 e3)) fun r1 e4 => r1 = (it x).map (g x) ∧ wipeE vs e4 = E) →
    lcLoop2 np vs vs1 mt mYes mi1 mt1 mc1 me (L.map enc) n E = .ok (L.flatMap fun x => (it x).map (g x)) E
  | [], n, _, _ => rfl
  | x :: L, n, hl, h => by
    obtain ⟨e1, h1, h2⟩ := h x List.mem_cons_self
    obtain ⟨ds1, e3, h3, rfl, h4⟩ := wpM_eq h2
    obtain ⟨r1, e4, h5, rfl, h6⟩ := wpM_eq h4
    rw [List.flatMap_cons, List.length_append] at hl
    have ih := lc2_all (np := np) (vs := vs) (vs1 := vs1) (mt := mt) (mt1 := mt1) (mc1 := mc1) (mi1 := mi1) (me := me) enc it encB g (E := E) (L := L) (n := n + ((it x).map (encB x)).length) (by rw [List.length_map]; omega) fun y hy => h y (List.mem_cons_of_mem _ hy)
    have key : wpM (lcLoop2 np vs vs1 mt mYes mi1 mt1 mc1 me (enc x :: L.map enc) n E) fun r e => r = (it x).map (g x) ++ (L.flatMap fun x => (it x).map (g x)) ∧ e = E := by
      refine wp_lc2 h1 ?_
      rw [h3]
      refine ⟨by rw [List.length_map]; omega, ?_⟩
      rw [h5]
      show wpM (lcLoop2 np vs vs1 mt mYes mi1 mt1 mc1 me (L.map enc) (n + _) (wipeE vs e4)) _
      rw [h6, ih]
      exact ⟨rfl, rfl⟩
    obtain ⟨r, e, h7, rfl, rfl⟩ := wpM_eq key
    rw [List.map_cons, List.flatMap_cons]
    exact h7
end PL
namespace TL
open PySem PySem.Spec L2 PL
open PySem.W (Datum Tup)

/-! ### all lists -/
theorem rows_ne {n : Int} (h0 : 1 ≤ n) (h1 : n ≤ 16) {k : Nat} (hk : k ≤ n.toNat) : rowsI n k ≠ [] := fun z => by
  have : (ups n).take k ∈ rowsI n k := (rows_mem h0 h1).mpr ⟨⟨h0, h1, fun x hx => mem_ups.mp (List.take_subset _ _ hx), (ups_nodup n).sublist (List.take_sublist _ _)⟩, by rw [List.length_take, ups_length]; omega⟩
  rw [z] at this
  cases this
theorem rows_end {n : Int} (h0 : 1 ≤ n) (h1 : n ≤ 16) : rowsI n (n.toNat + 1) = [] := by
  refine List.eq_nil_iff_forall_not_mem.mpr fun x hx => ?_
  obtain ⟨hr, hl⟩ := (rows_mem h0 h1).mp hx
  have := right_len hr
  omega
theorem found_end {n : Int} (h0 : 1 ≤ n) (h1 : n ≤ 16) : foundI n (n.toNat + 1) = foundI n n.toNat := by
  show foundI n n.toNat ++ rowsI n (n.toNat + 1) = _
  rw [rows_end h0 h1, List.append_nil]
theorem ext_nodup (n : Int) (row : List Int) : (extI n row).Nodup := by
  unfold extI
  unfold List.Nodup
  rw [List.pairwise_map]
  exact ((ups_nodup n).filter _).imp fun h e => h (by simpa using e)
theorem rows_nodup {n : Int} : ∀ k, (rowsI n k).Nodup
  | 0 => by simp [rowsI]
  | k + 1 => by
    unfold rowsI
    refine List.pairwise_flatMap.mpr ⟨fun r _ => ext_nodup n r, ?_⟩
    refine (rows_nodup k).imp fun {r s} hrs => ?_
    intro x hx y hy e
    subst e
    obtain ⟨a, _, rfl⟩ := List.mem_map.mp hx
    obtain ⟨b, _, e⟩ := List.mem_map.mp hy
    exact hrs (List.append_inj_left' e rfl).symm
theorem found_nodup {n : Int} (h0 : 1 ≤ n) (h1 : n ≤ 16) : ∀ k, (foundI n k).Nodup
  | 0 => by simp [foundI]
  | k + 1 => by
    unfold foundI
    refine List.nodup_append.mpr ⟨found_nodup h0 h1 k, rows_nodup _, fun x hx y hy e => ?_⟩
    subst e
    obtain ⟨j, hj, hm⟩ := found_mem.mp hx
    have a := ((rows_mem h0 h1).mp hm).2
    have b := ((rows_mem h0 h1).mp hy).2
    omega
theorem all_lists_eq {n : Int} (h0 : 1 ≤ n) (h1 : n ≤ 5) : f_all_lists [.im (.int n)] = .ok (.ol ((foundI n n.toNat).map tI)) [] := by
  refine eq_of_wpF ?_
  unfold f_all_lists m_all_lists b_all_lists_7
  rw [wpF_fn]
  simp [q_all_lists_1, toSs, toS]
  have e0 : Sl.ol [tI []] = .ol ((foundI n 0).map tI) := rfl
  have e1 : Sl.ol ((foundI n 0).map tI) = .ol ((rowsI n 0).map tI) := rfl
  rw [e0]
  unfold q_all_lists_5
  refine wp_while (fun k e => ∃ (i : Nat) (t3 t4 : Sl), e = [.im (.int n), .ol ((foundI n i).map tI), .ol ((rowsI n i).map tI), t3, t4] ∧ k + i = n.toNat + 1) (m := n.toNat + 1) ⟨0, _, _, by rw [e1], by omega⟩ (by omega) ?_
  rintro k e ⟨i, t3, t4, rfl, hk⟩
  have tr : truS (.ol ((rowsI n i).map tI)) = some (!decide (rowsI n i = [])) := by
    cases rowsI n i <;> rfl
  simp [tr]
  by_cases hr : rowsI n i = []
  · have hi : i = n.toNat + 1 := by
      by_cases h : i ≤ n.toNat
      · exact absurd hr (rows_ne h0 (by omega) h)
      · omega
    subst hi
    simp [hr, q_all_lists_6, found_end h0 (show n ≤ 16 by omega)]
  · have hi : i ≤ n.toNat := by
      refine Nat.le_of_not_lt fun h => hr ?_
      have : i = n.toNat + 1 := by omega
      rw [this]
      exact rows_end h0 (by omega)
    obtain ⟨k, rfl⟩ : ∃ k', k = k' + 1 := ⟨k - 1, by omega⟩
    simp [hr]
    have lr := rows_len h1 i
    have lr2 := rows_len h1 (i + 1)
    have lf := found_len h1 i
    have p1 : 5 ^ i ≤ 5 ^ 5 := Nat.pow_le_pow_right (by decide) (by omega)
    have p2 : 5 ^ (i + 1) ≤ 5 ^ 6 := Nat.pow_le_pow_right (by decide) (by omega)
    have er : (rowsI n i).flatMap (fun r => (leftI n r).map fun x => tI (r ++ [x])) = (rowsI n (i + 1)).map tI := by
      show _ = ((rowsI n i).flatMap (extI n)).map tI
      rw [List.map_flatMap]
      congr 1
      funext r
      unfold extI
      rw [List.map_map]
      rfl
    have el : ((rowsI n i).flatMap fun r => leftI n r).length = (rowsI n (i + 1)).length := by
      have h1 : ((rowsI n i).flatMap fun r => leftI n r).length = ((rowsI n i).flatMap (extI n)).length := by
        rw [List.length_flatMap, List.length_flatMap]
        congr 1
        refine List.map_congr_left fun r _ => ?_
        unfold extI
        rw [List.length_map]
        rfl
      exact h1
    have lc := lc2_all (np := 1) (vs := [3, 4]) (vs1 := [4]) (mt := tName 1 3) (mt1 := tName 1 4) (mc1 := mYes) (mi1 := mSeq 1 (mCall 1 [false, false] f_left_of (mCons (mVar 0) (mCons (mVar 3) mNil)))) (me := mOp2 gAdd (mVar 3) (mTup 1 (mCons (mVar 4) mNil)))
      tI (leftI n) (fun _ => PyData.int) (fun r x => tI (r ++ [x])) (E := [.im (.int n), .ol ((foundI n i).map tI), .im (.list ((rowsI n i).map tI)), .no, .no]) (L := rowsI n i) (n := 0) (by rw [el, sizeLine_eq]; omega) (fun r hr => by
        have hrr := (rows_mem h0 (show n ≤ 16 by omega)).mp hr
        have c1 := left_of_eq (n := n) (xs := r) (by omega) (by omega)
        refine ⟨_, tN_ok (by simp) (by decide), ?_⟩
        simp [callS_eq, c1]
        refine wp_lcT PyData.int (fun x => tI (r ++ [x])) (fun x hx => ⟨_, tN_ok (by simp) (by decide), by simp, ?_⟩) ?_
        · have ga := gAdd_tI r [x] (by have := right_len hrr.1; simp; omega)
          simp [ga]
        · simp)
    rw [er] at lc
    have hz : (foundI n i).length + (rowsI n (i + 1)).length ≤ sizeLine := by rw [sizeLine_eq]; omega
    have ef : foundI n (i + 1) = foundI n i ++ rowsI n (i + 1) := rfl
    simp [b_all_lists_4, q_all_lists_2, mLc2, lc, toS, q_all_lists_3, sExt, hz]
    exact ⟨i + 1, by rw [ef]; simp, by omega⟩
theorem first_le' (c y : List Int) : 0 ≤ fstI c y ∧ fstI c y ≤ 1 := first_le c y
theorem nr_len (l : List Int) : nr l ≤ l.length := by
  have go : ∀ l : List Int, l ≠ [] → brk l + 1 ≤ l.length := by
    intro l
    induction l with
    | nil => intro h; exact absurd rfl h
    | cons x r ih =>
      intro _
      cases r with
      | nil => simp [brk]
      | cons y r =>
        have := ih (by simp)
        simp only [brk, List.length_cons] at this ⊢
        split <;> omega
  unfold nr
  split
  · omega
  · rename_i h
    have := go l h
    omega
/-! ### how many lists at a distance -/
theorem require_number_eq {m : Int} (h0 : 0 ≤ m) (h1 : m ≤ 16) : f_require_number [.im (.int m)] = .ok (.im .none) [] := by
  refine eq_of_wpF ?_
  have c3 := is_integer_eq (d := .int m) rfl 0 16
  simp only [isInt_int, h0, h1, decide_true, Bool.and_true] at c3
  unfold f_require_number m_require_number
  rw [wpF_fn]
  simp [q_require_number_2, callS_eq, c3, truS, outsOf]
def atI' (n : Int) (c : List Int) (m : Int) : List (List Int) := (foundI n n.toNat).filter fun x => decide (awayI c x = m)
theorem count_at_eq {n m : Int} {c : List Int} (hc : Right n c) (hn : n ≤ 5) (h0 : 0 ≤ m) (h1 : m ≤ 16) : f_count_at_k01 [.im (stD n c), .im (.int m)] = .ok (.im (.int (atI' n c m).length)) [] := by
  refine eq_of_wpF ?_
  have hl := hc.lo
  have c1 := require_state_eq hc
  have c2 := require_number_eq h0 h1
  have c3 := all_lists_eq hl hn
  have n6 : ¬ (5 < n) := by omega
  unfold f_count_at_k01 m_count_at_k01 b_count_at_k01_6
  rw [wpF_fn]
  simp [q_count_at_k01_1, q_count_at_k01_2, q_count_at_k01_4, q_count_at_k01_5, callS_eq, c1, c2, c3, gGt, n6]
  refine wp_lc tI (fun x => decide (awayI c x = m)) tI (fun x hx => ?_) ?_
  · have hx := (all_mem hl (show n ≤ 16 by omega)).mp hx
    have c4 := away_eq c x (by have := hx.len; omega)
    exact ⟨_, tN_ok (by simp) (by decide), by simp, by simp [callS_eq, c4], fun _ => by simp⟩
  · simp [atI', outsOf]
end TL

set_option maxRecDepth 100000
namespace TL
open PySem PySem.Spec L2 PL
open PySem.W (Datum Tup)

theorem Found.look {n : Int} {c : List Int} {F : Tab} (h : Found n c F) {x : List Int} (hx : x ∈ keysI F) : lookI F x = some (awayI c x) := by
  obtain ⟨p, hp, rfl⟩ := List.mem_map.mp hx
  rw [← h.val p hp]
  exact look_some h.nd hp
theorem Found.len {n : Int} {c : List Int} {F : Tab} (h : Found n c F) (hn : n ≤ 5) : F.length ≤ 10000 := tab_len hn h.nd fun x hx => (h.mem x).mp hx
theorem turn05 (R : Sl → En → Prop) (S s1 : Sl) (a b n : Int) {c : List Int} (hc : Right n c) (hn : n ≤ 4) (s5 s6 s7 : Sl) :
    wpR ((sSeq q_law_k05_3 q_law_k05_10) [S, s1, bagS a b, .im (.int n), .im (tI c), s5, s6, s7]) (fun e => ∃ r : List Sl, r.length = 7 ∧ e = S :: r) R := by
  obtain ⟨F, hF, c1⟩ := layers_eq hc hn
  simp [q_law_k05_3, callS_eq, c1]
  have hl := hF.len (by omega)
  unfold q_law_k05_10
  rw [ap_forD rfl (keysD_tab (by rw [sizeLine_eq]; omega)), wpR_noX]
  refine wp_ix (fun i e => ∃ s6 s7, e = [S, s1, bagS a b, .im (.int n), .im (tI c), .im (dtD (kvI F)), s6, s7]) ⟨_, _, rfl⟩ ?_ ?_
  · rintro i d e hd ⟨s6, s7, rfl⟩
    rw [List.getElem?_map] at hd
    obtain ⟨x, hxi, rfl⟩ := Option.map_eq_some_iff.mp hd
    have hxk := List.mem_of_getElem? hxi
    have hx := (hF.mem x).mp hxk
    have c2 := distance_eq hc hx
    have c3 := shortest_eq hc hx
    have c4 := law_last_eq' hc (script_good hc hx)
    rw [script_last hc hx] at c4
    have g := gDIx_im F x
    rw [hF.look hxk] at g
    have gl := gLen_sc (scriptI c x)
    rw [script_len] at gl
    have ty : tyOf (.im (scD (scriptI c x))) = some "tuple" := rfl
    have it : isT "tuple" "tuple" = true := by decide
    refine ⟨_, tN_ok (by simp) (by decide), ?_⟩
    simp [b_law_k05_9, q_law_k05_5, callS_eq, c2, g, q_law_k05_6, c3, q_law_k05_8, ty, it, truS, gl, c4]
  · rintro e ⟨s6, s7, rfl⟩
    exact ⟨_, rfl, rfl⟩
theorem keeps_k05 : Keeps f_law_k05 := keeps_of fun ns hl => by
  have R1 : Right 3 [1, 3] := ⟨by decide, by decide, by decide, by decide⟩
  have R2 : Right 3 [1, 2] := ⟨by decide, by decide, by decide, by decide⟩
  have R3 : Right 4 [] := ⟨by decide, by decide, by simp, by decide⟩
  have R4 : Right 4 [4, 3, 2, 1] := ⟨by decide, by decide, by decide, by decide⟩
  have c1 := distance_eq R1 R2
  have c2 := distance_eq R3 R4
  have v1 : awayI [1, 3] [1, 2] = 2 := by decide +kernel
  have v2 : awayI [] [4, 3, 2, 1] = 4 := by decide +kernel
  rw [v1] at c1
  rw [v2] at c2
  unfold f_law_k05 m_law_k05 b_law_k05_14
  rw [wpF_fn]
  simp only [ap_seq, wpR_seq]
  unfold q_law_k05_12
  refine wp_outer (m := 7) hl rfl (by decide) (by decide) (by decide) (fun k r hk hr => ?_) fun r hr => ?_
  · match r, hr with
    | [s1, s2, s3, s4, s5, s6, s7], _ =>
    have eb : b_law_k05_11 = sSeq q_law_k05_1 (sSeq q_law_k05_2 (sSeq q_law_k05_3 q_law_k05_10)) := rfl
    rw [eb]
    simp only [ap_seq, wpR_seq]
    simp [q_law_k05_1, callS_eq]
    refine wp_bag' fun a b => ?_
    simp [q_law_k05_2, callS_eq]
    refine wp_state fun n xs a1 b1 hx hn => ?_
    have := turn05 (R := fun s e => s = .im (.bool true)) (.im (scrD ns)) (.im (.int k)) a1 b1 n hx hn s5 s6 s7
    simp only [ap_seq, wpR_seq] at this
    simp [toI]
    exact this
  · match r, hr with
    | [s1, s2, s3, s4, s5, s6, s7], _ =>
    simp [q_law_k05_13, toSs, toS, callS_eq, c1, c2]
end TL

set_option maxRecDepth 100000
namespace TL
open PySem PySem.Spec L2 PL
open PySem.W (Datum Tup)

theorem Found.perm {n : Int} {c : List Int} {F : Tab} (h : Found n c F) (h0 : 1 ≤ n) (h1 : n ≤ 16) : (keysI F).Perm (foundI n n.toNat) :=
  (List.perm_ext_iff_of_nodup h.nd (found_nodup h0 h1 _)).mpr fun x => by rw [h.mem, all_mem h0 h1]
theorem turn13 (R : Sl → En → Prop) (S s1 s3 : Sl) (a b : Int) (t4 t5 t6 t7 t8 t9 : Sl) : wpR (b_law_k13_12 [S, s1, bagS a b, s3, t4, t5, t6, t7, t8, t9])
    (fun e => ∃ a b s3 t4 t5 t6 t7 t8 t9, e = [S, s1, bagS a b, s3, t4, t5, t6, t7, t8, t9]) R := by
  unfold b_law_k13_12
  simp [q_law_k13_2, callS_eq]
  refine wp_state fun n c a1 b1 hc hn => ?_
  have h0 := hc.lo
  obtain ⟨F, hF, c1⟩ := layers_eq hc hn
  have hl := hF.len (by omega)
  have pm := hF.perm h0 (show n ≤ 16 by omega)
  have c2 := law_all_eq h0 (show n ≤ 5 by omega)
  simp [toI, q_law_k13_3, callS_eq, c1, q_law_k13_4]
  rw [ap_lcD rfl (keysD_tab (by rw [sizeLine_eq]; omega))]
  simp
  refine wp_lcT tI (fun x => .int (awayI c x)) (fun x hx => ⟨_, tN_ok (by simp) (by decide), by simp, ?_⟩) ?_
  · have g := gDIx_im F x
    rw [hF.look hx] at g
    simp [g]
  have hlen : (keysI F).length = (foundI n n.toNat).length := pm.length_eq
  simp [q_law_k13_6, callS_eq, c2, hlen]
  have e1 : (8 : Int) ≤ 1000000 ∧ (-1000000 : Int) ≤ 8 := by omega
  simp [q_law_k13_9, mRng1, e1]
  have cnt : ∀ m : Int, (((keysI F).map fun x => awayI c x).filter fun y => decide (y = m)).length = (atI' n c m).length := fun m => by
    rw [List.filter_map, List.length_map]
    exact ((pm.filter _).length_eq)
  refine wp_ix (fun i e => ∃ t7 t9, e = [S, s1, bagS a1 b1, s3, .im (stD n c), .im (dtD (kvI F)), .im (.list ((keysI F).map fun x => .int (awayI c x))), t7, .no, t9]) ⟨_, _, rfl⟩ ?_ ?_
  · rintro i d e hd ⟨t7, t9, rfl⟩
    obtain ⟨hi, rfl⟩ := rangeD_get hd
    have c3 := count_at_eq (m := (i : Int)) hc (show n ≤ 5 by omega) (by omega) (by omega)
    refine ⟨_, tN_ok (by simp) (by decide), ?_⟩
    have em : (keysI F).map (fun x => PyData.int (awayI c x)) = ((keysI F).map fun x => awayI c x).map PyData.int := by rw [List.map_map]; rfl
    have cm := cnt (i : Int)
    rw [em]
    generalize (keysI F).map (fun x => awayI c x) = A at *
    simp [q_law_k13_8, callS_eq, c3]
    refine wp_lc PyData.int (fun y => decide (y = (i : Int))) PyData.int (fun y hy => ⟨_, tN_ok (by simp) (by decide), by simp, by simp, fun _ => by simp⟩) ?_
    simp [cm]
  · rintro e ⟨t7, t9, rfl⟩
    have c3 := count_at_eq (m := 16) hc (show n ≤ 5 by omega) (by omega) (by omega)
    have z : atI' n c 16 = [] := by
      unfold atI'
      rw [List.filter_eq_nil_iff]
      intro x hx
      have hx := (all_mem h0 (show n ≤ 16 by omega)).mp hx
      have h2 := hx.len
      have h3 := right_len hx
      have := away_nr c x
      have h4 := (first_le' c x).2
      have h5 : nr (x.drop (keptI c x).length) ≤ x.length := Nat.le_trans (nr_sub (List.drop_sublist _ _)) (nr_len x)
      rw [decide_eq_true_eq]
      omega
    rw [z] at c3
    simp [q_law_k13_11, callS_eq, c3]
    exact ⟨_, _, rfl⟩
theorem keeps_k13 : Keeps f_law_k13 := keeps_of fun ns hl => by
  have R1 : Right 2 [] := ⟨by decide, by decide, by simp, by decide⟩
  have R2 : Right 5 [] := ⟨by decide, by decide, by simp, by decide⟩
  have R3 : Right 3 [2] := ⟨by decide, by decide, by decide, by decide⟩
  have c0 := count_at_eq (m := 0) R1 (by decide) (by decide) (by decide)
  have c1 := count_at_eq (m := 1) R1 (by decide) (by decide) (by decide)
  have c2 := count_at_eq (m := 2) R1 (by decide) (by decide) (by decide)
  have c3 := count_at_eq (m := 3) R1 (by decide) (by decide) (by decide)
  have c4 := count_at_eq (m := 5) R2 (by decide) (by decide) (by decide)
  have c5 := count_at_eq (m := 0) R3 (by decide) (by decide) (by decide)
  have v0 : (atI' 2 [] 0).length = 1 := by decide +kernel
  have v1 : (atI' 2 [] 1).length = 3 := by decide +kernel
  have v2 : (atI' 2 [] 2).length = 1 := by decide +kernel
  have v3 : (atI' 2 [] 3).length = 0 := by decide +kernel
  have v4 : (atI' 5 [] 5).length = 1 := by decide +kernel
  have v5 : (atI' 3 [2] 0).length = 1 := by decide +kernel
  rw [v0] at c0
  rw [v1] at c1
  rw [v2] at c2
  rw [v3] at c3
  rw [v4] at c4
  rw [v5] at c5
  simp at c0 c1 c2 c3 c4 c5
  unfold f_law_k13 m_law_k13 b_law_k13_19
  rw [wpF_fn]
  simp only [ap_seq, wpR_seq]
  unfold q_law_k13_15
  refine wp_outer (m := 9) hl rfl (by decide) (by decide) (by decide) (fun k r hk hr => ?_) fun r hr => ?_
  · match r, hr with
    | [s1, s2, s3, s4, s5, s6, s7, s8, s9], _ =>
    simp [b_law_k13_14, q_law_k13_1, callS_eq]
    refine wp_bag' fun a b => ?_
    simp
    unfold q_law_k13_13
    refine wp_turns (I := fun e => ∃ a b t3 t4 t5 t6 t7 t8 t9, e = [.im (scrD ns), .im (.int k), bagS a b, t3, t4, t5, t6, t7, t8, t9]) ⟨_, _, _, _, _, _, _, _, _, rfl⟩ (by decide) ?_ (by decide) ?_ ?_
    · rintro e ⟨_, _, _, _, _, _, _, _, _, rfl⟩
      simp
    · rintro j e ⟨a, b, t3, t4, t5, t6, t7, t8, t9, rfl⟩
      exact turn13 ..
    · rintro e ⟨a, b, t3, t4, t5, t6, t7, t8, t9, rfl⟩
      exact ⟨_, rfl, rfl⟩
  · match r, hr with
    | [s1, s2, s3, s4, s5, s6, s7, s8, s9], _ =>
    have e1 : (4 : Int) ≤ 1000000 ∧ (-1000000 : Int) ≤ 4 := by omega
    have g : gNe (.ol [.int 1, .int 3, .int 1, .int 0]) (.ol [.int 1, .int 3, .int 1, .int 0]) = some (.im (.bool false)) := gNe_dat (α := List Int) [1, 3, 1, 0] [1, 3, 1, 0] rfl rfl (by decide)
    have er : rangeD 0 4 = ([0, 1, 2, 3] : List Int).map PyData.int := rfl
    have hL : (([0, 1, 2, 3] : List Int).map fun m => PyData.int ((atI' 2 [] m).length : Int)) = [.int 1, .int 3, .int 1, .int 0] := by simp [v0, v1, v2, v3]
    have hm : ∀ m ∈ ([0, 1, 2, 3] : List Int), f_count_at_k01 [.im (stD 2 []), .im (.int m)] = .ok (.im (.int (atI' 2 [] m).length)) [] := fun m hm => by
      have : 0 ≤ m ∧ m ≤ 16 := by simp at hm; omega
      exact count_at_eq R1 (by decide) this.1 this.2
    generalize atI' 2 [] = A at *
    generalize ([0, 1, 2, 3] : List Int) = N at *
    simp [q_law_k13_17, mRng1, e1, er]
    refine wp_lcT PyData.int (fun m : Int => .int ((A m).length : Int)) (fun m hm' => ⟨_, tN_ok (by simp) (by decide), by simp, ?_⟩) ?_
    · have c := hm m hm'
      simp [callS_eq, c]
    · rw [hL]
      simp [g, q_law_k13_18, callS_eq, c4, c5]
end TL

set_option maxRecDepth 100000
open PySem PySem.W PyProof.Rows
set_option maxRecDepth 100000 in
set_option maxHeartbeats 0 in
theorem PySem.Challenge.cw_transferlists_k13_whole_lists_at_a_dista_holds : PySem.Challenge.rw_transferlists_k13_whole_lists_at_a_dista.Holds := by
  w_on; o_law; k_head; (case hw => w_witness2)
  k_fill
  refine PL.walk (l := PySem.Challenge.rw_transferlists_k13_whole_lists_at_a_dista) 7 rfl rfl ⟨rfl, by decide, by decide⟩ (fun w h Y => PySem.W.kIn_of Y) ?F
  case F =>
    intro w mg fa h KX G hmg
    refine PL.law_ok (l := PySem.Challenge.rw_transferlists_k13_whole_lists_at_a_dista) hmg TL.keeps_k13 (K13.ok_law ?T)
    case T =>
      refine' K13.txt_mk KX G ?z_all ?z_bool ?z_int ?z_isinstance ?z_len ?z_list ?z_min ?z_range ?z_set ?z_sorted ?z_tuple ?i_LARGEST ?i_SMALL ?xa_InvalidNumber ?xq_InvalidNumber ?xk_InvalidNumber ?xb_InvalidNumber ?xt_InvalidNumber ?xa_InvalidState ?xq_InvalidState ?xk_InvalidState ?xb_InvalidState ?xt_InvalidState ?xa_TooLarge ?xq_TooLarge ?xk_TooLarge ?xb_TooLarge ?xt_TooLarge ?a_0 ?l_0 ?c_0 ?k_0 ?a_1 ?l_1 ?c_1 ?k_1 ?a_2 ?l_2 ?c_2 ?k_2 ?a_3 ?l_3 ?c_3 ?k_3 ?a_4 ?l_4 ?c_4 ?k_4 ?a_5 ?l_5 ?c_5 ?k_5 ?a_6 ?l_6 ?c_6 ?k_6 ?a_7 ?l_7 ?c_7 ?k_7 ?a_8 ?l_8 ?c_8 ?k_8 ?a_9 ?l_9 ?c_9 ?k_9 ?a_10 ?l_10 ?c_10 ?k_10 ?a_11 ?l_11 ?c_11 ?k_11 ?a_12 ?l_12 ?c_12 ?k_12 ?a_13 ?l_13 ?c_13 ?k_13 ?a_14 ?l_14 ?c_14 ?k_14 ?a_15 ?l_15 ?c_15 ?k_15 ?a_16 ?l_16 ?c_16 ?k_16 ?a_17 ?l_17 ?c_17 ?k_17 ?a_18 ?l_18 ?c_18 ?k_18 ?a_19 ?l_19 ?c_19 ?k_19 ?a_20 ?l_20 ?c_20 ?k_20 ?a_21 ?l_21 ?c_21 ?k_21 ?a_22 ?l_22 ?c_22 ?k_22
      (case z_all => k_is); (case z_bool => k_is); (case z_int => k_is); (case z_isinstance => k_is); (case z_len => k_is)
      (case z_list => k_is); (case z_min => k_is); (case z_range => k_is); (case z_set => k_is); (case z_sorted => k_is)
      (case z_tuple => k_is); (case i_LARGEST => k_is); (case i_SMALL => k_is); (case xa_InvalidNumber => k_is); (case xq_InvalidNumber => k_exc)
      (case xk_InvalidNumber => k_is); (case xb_InvalidNumber => k_is); (case xt_InvalidNumber => k_is); (case xa_InvalidState => k_is); (case xq_InvalidState => k_exc)
      (case xk_InvalidState => k_is); (case xb_InvalidState => k_is); (case xt_InvalidState => k_is); (case xa_TooLarge => k_is); (case xq_TooLarge => k_exc)
      (case xk_TooLarge => k_is); (case xb_TooLarge => k_is); (case xt_TooLarge => k_is); (case a_0 => k_is); (case l_0 => k_is)
      (case c_0 => k_is); (case k_0 => k_is); (case a_1 => k_is); (case l_1 => k_is); (case c_1 => k_is)
      (case k_1 => k_is); (case a_2 => k_is); (case l_2 => k_is); (case c_2 => k_is); (case k_2 => k_is)
      (case a_3 => k_is); (case l_3 => k_is); (case c_3 => k_is); (case k_3 => k_is); (case a_4 => k_is)
      (case l_4 => k_is); (case c_4 => k_is); (case k_4 => k_is); (case a_5 => k_is); (case l_5 => k_is)
      (case c_5 => k_is); (case k_5 => k_is); (case a_6 => k_is); (case l_6 => k_is); (case c_6 => k_is)
      (case k_6 => k_is); (case a_7 => k_is); (case l_7 => k_is); (case c_7 => k_is); (case k_7 => k_is)
      (case a_8 => k_is); (case l_8 => k_is); (case c_8 => k_is); (case k_8 => k_is); (case a_9 => k_is)
      (case l_9 => k_is); (case c_9 => k_is); (case k_9 => k_is); (case a_10 => k_is); (case l_10 => k_is)
      (case c_10 => k_is); (case k_10 => k_is); (case a_11 => k_is); (case l_11 => k_is); (case c_11 => k_is)
      (case k_11 => k_is); (case a_12 => k_is); (case l_12 => k_is); (case c_12 => k_is); (case k_12 => k_is)
      (case a_13 => k_is); (case l_13 => k_is); (case c_13 => k_is); (case k_13 => k_is); (case a_14 => k_is)
      (case l_14 => k_is); (case c_14 => k_is); (case k_14 => k_is); (case a_15 => k_is); (case l_15 => k_is)
      (case c_15 => k_is); (case k_15 => k_is); (case a_16 => k_is); (case l_16 => k_is); (case c_16 => k_is)
      (case k_16 => k_is); (case a_17 => k_is); (case l_17 => k_is); (case c_17 => k_is); (case k_17 => k_is)
      (case a_18 => k_is); (case l_18 => k_is); (case c_18 => k_is); (case k_18 => k_is); (case a_19 => k_is)
      (case l_19 => k_is); (case c_19 => k_is); (case k_19 => k_is); (case a_20 => k_is); (case l_20 => k_is)
      (case c_20 => k_is); (case k_20 => k_is); (case a_21 => k_is); (case l_21 => k_is); (case c_21 => k_is)
      (case k_21 => k_is); (case a_22 => k_is); (case l_22 => k_is); (case c_22 => k_is); (case k_22 => k_is)
