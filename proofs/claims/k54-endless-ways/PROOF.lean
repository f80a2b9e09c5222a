import PyProof.Rows.All
import Wide.All
import OpenK.AllK
import Wide.FinOn
import HandS.ForMost
import HandS.ForExc
import HandS.Wide
import KE.DataEq
import KE.DataCmp
import KE.DataFind
import HandS.TupLe
import HandS.IsInst
import HandS.CallSlots
import HandS.ExcIs
import HandS.Defaults
import HandS.HeadEnd
import HandS.Head0
import HandS.Head1
import HandS.Head2
import HandS.HeadHook1
import HandS.HeadHook2
import KE.KStateDown
import HandS.Codes
import HandS.EndBits
import HandS.Conv
import HandS.Zip
import HandS.TryOnly
import HandS.Dict
import HandS.DictComp
import HandS.More
import KE.SortData
import HandS.Text
import HandS.StrMore
import HandS.MapJoin
import HandS.DeepEq
import PyProof.NeKinds
import PyProof.MeetsIn
import HandS.SetFor
import KE.KDictList
import KE.KDictSum
import KE.SortKeyHeap
import HandS.SortKw
import HandS.Keys
import HandS.Finally
import KE.GoesZip
import KE.GoesComp
import PySem.Challenge.RW_roadshare_k54_endless_ways
set_option Elab.async false
set_option linter.all false
set_option maxRecDepth 100000
set_option maxHeartbeats 0
namespace Pi
open PySem PySem.Spec PyProof.Rows L2
inductive D where
  | non | bl (b : Bool) | int (i : Int) | str (x : Str)
  | tup (l : List D) | lst (l : List D) | dct (ks : List Key) (vs : List D)
  | obj (c : Nat) (fs : List D) | exc (c : Nat) | scr (l : List Int)
inductive Er where
  | raise (k : Nat) | stuck
abbrev Rs (α : Type) := Except Er α
def bnd {α β : Type} : Rs α → (α → Rs β) → Rs β
  | .ok a, f => f a
  | .error e, _ => .error e
@[simp] theorem bnd_ok {α β : Type} (a : α) (f : α → Rs β) : bnd (.ok a) f = f a := rfl
@[simp] theorem bnd_err {α β : Type} (e : Er) (f : α → Rs β) : bnd (.error e) f = .error e := rfl
abbrev En := List (Option D)
abbrev EvE := En → Rs D
inductive Fl where
  | nx (en : En) | rt (d : D) | ct (en : En)
abbrev EvS := En → Rs Fl
inductive Sh where
  | s | u | o (e : Sh) | m (fs : Sh) | nil | cons (a b : Sh) | rep (e : Sh)
  deriving DecidableEq
def Sh.hd : Sh → Sh
  | .cons a _ => a
  | .rep e => e
  | .u => .u
  | _ => .s
def Sh.tl : Sh → Sh
  | .cons _ b => b
  | .rep e => .rep e
  | .u => .u
  | _ => .nil
def Sh.its : Sh → Option Sh
  | .o e => some (.rep e)
  | .u => some .u
  | _ => none
def Sh.fls : Sh → Option Sh
  | .m fs => some fs
  | .u => some .u
  | _ => none
inductive SF where
  | n | s (dp : Bool) | o (dp : Bool) | z | x (a : Addr) | dt (sh : Sh) | ma (sh : Sh)
  deriving DecidableEq
inductive VF where
  | sh (dp : Bool) | uq (dp : Bool) | bo (dp : Bool)
  deriving DecidableEq
structure Gb where
  P : Program
  w : World
  K : PySem.W.Frag
  mg : Str → Option Value
  base : Heap
  ca : Nat → Addr
  cf : Nat → List Str
  xa : Nat → Addr
  ga : Str → Addr
def SqF (K : PySem.W.Frag) (H : Hp) (a : Addr) (xs : List V) : Prop := (∃ o, H a = some (.frz o (.lst xs))) ∨
  ∃ (o : Obj) (its : Array Value) (n : Nat), K.lookup a = some o ∧ o.cls = .type "list" ∧ o.dict = none ∧ o.data = .seq its n ∧ its.size ≤ sizeLine ∧ Vals xs its.toList
theorem SqF.sq {K : PySem.W.Frag} {H : Hp} {a : Addr} {xs : List V} (h : SqF K H a xs) : SqL K H a xs := by
  rcases h with ⟨o, h⟩ | h
  · exact .inl (.inr ⟨o, h⟩)
  · exact .inr h
section
variable (G : Gb) (A : Addr → Prop) (H : Hp)
mutual
/-- the value v stands for the datum; what may be written within is at A -/
def R : D → V → Prop
  | .non, v => v = .non
  | .bl b, v => v = .bl b
  | .int i, v => v = .int i
  | .str x, v => v = .str x
  | .tup l, v => ∃ a xs, v = .ref a ∧ SqT G.K H a xs ∧ RL l xs
  | .lst l, v => ∃ a xs, v = .ref a ∧ A a ∧ H a = some (.lst xs) ∧ RL l xs
  | .dct ks l, v => ∃ a kvs, v = .ref a ∧ A a ∧ Rd H a (.dK kvs) ∧ kvs.map (·.1) = ks ∧ RL l (kvs.map (·.2))
  | .obj c l, v => ∃ a dx fs, v = .ref a ∧ A a ∧ H a = some (.ins (G.ca c) dx fs) ∧ fs.map (·.1) = (G.cf c).take l.length ∧ RL l (fs.map (·.2))
  | .exc _, _ => False
  | .scr l, v => ∃ a, v = .ref a ∧ SqF G.K H a (l.map V.int)
def RL : List D → List V → Prop
  | [], xs => xs = []
  | d :: l, xs => ∃ x r, xs = x :: r ∧ R d x ∧ RL l r
end
end
section
variable {G : Gb} {A A' : Addr → Prop} {H H' : Hp}
theorem RL.len : ∀ {l : List D} {xs : List V}, RL G A H l xs → xs.length = l.length
  | [], _, h => by rw [h]; rfl
  | _ :: l, _, ⟨_, r, e, _, h⟩ => by rw [e]; exact congrArg Nat.succ (RL.len (l := l) h)
theorem RL.cons {d : D} {l : List D} {x : V} {r : List V} (h : R G A H d x) (t : RL G A H l r) : RL G A H (d :: l) (x :: r) := ⟨x, r, rfl, h, t⟩
theorem RL.nil : RL G A H [] [] := rfl
theorem RL.app : ∀ {l m : List D} {xs ys : List V}, RL G A H l xs → RL G A H m ys → RL G A H (l ++ m) (xs ++ ys)
  | [], _, _, _, h, t => by rw [show _ = [] from h]; exact t
  | _ :: l, _, _, _, ⟨x, r, e, h1, h⟩, t => by rw [e]; exact ⟨x, _, rfl, h1, RL.app (l := l) h t⟩
theorem RL.get : ∀ {l : List D} {xs : List V} {i : Nat} {d : D}, RL G A H l xs → l[i]? = some d → ∃ x, xs[i]? = some x ∧ R G A H d x
  | [], _, _, _, _, e => by simp at e
  | a :: l, _, 0, d, ⟨x, r, e, h1, _⟩, e1 => by simp at e1; subst e1; exact ⟨x, by rw [e]; rfl, h1⟩
  | a :: l, _, i + 1, d, ⟨x, r, e, _, h⟩, e1 => by rw [e]; exact RL.get (l := l) (i := i) h e1
theorem RL.set : ∀ {l : List D} {xs : List V} (i : Nat) {d : D} {x : V}, RL G A H l xs → R G A H d x → RL G A H (l.set i d) (xs.set i x)
  | [], _, _, _, _, h, _ => by rw [show _ = [] from h]; rfl
  | a :: l, _, 0, d, y, ⟨x, r, e, h1, h⟩, hd => by rw [e]; exact ⟨y, r, rfl, hd, h⟩
  | a :: l, _, i + 1, d, y, ⟨x, r, e, h1, h⟩, hd => by rw [e]; exact ⟨x, _, rfl, h1, RL.set (l := l) i h hd⟩
theorem RL.take : ∀ {l : List D} {xs : List V} (n : Nat), RL G A H l xs → RL G A H (l.take n) (xs.take n)
  | _, _, 0, _ => rfl
  | [], _, n + 1, h => by rw [show _ = [] from h]; rfl
  | a :: l, _, n + 1, ⟨x, r, e, h1, h⟩ => by rw [e]; exact ⟨x, _, rfl, h1, RL.take (l := l) n h⟩
theorem RL.drop : ∀ {l : List D} {xs : List V} (n : Nat), RL G A H l xs → RL G A H (l.drop n) (xs.drop n)
  | _, _, 0, h => h
  | [], _, n + 1, h => by rw [show _ = [] from h]; rfl
  | a :: l, _, n + 1, ⟨x, r, e, h1, h⟩ => by rw [e]; exact RL.drop (l := l) n h
structure Up (K : PySem.W.Frag) (A A' : Addr → Prop) (H H' : Hp) : Prop where
  lst : ∀ a xs, A a → H a = some (.lst xs) → A' a ∧ H' a = some (.lst xs)
  dct : ∀ a xs, A a → Rd H a (.dK xs) → A' a ∧ Rd H' a (.dK xs)
  obj : ∀ a C dx fs, A a → H a = some (.ins C dx fs) → A' a ∧ H' a = some (.ins C dx fs)
  tup : ∀ a xs, Rd H a (.tup xs) → Rd H' a (.tup xs)
  scr : ∀ a xs, SqF K H a xs → SqF K H' a xs
theorem Up.seqT {K : PySem.W.Frag} (u : Up K A A' H H') {a : Addr} {xs : List V} (h : SqT K H a xs) : SqT K H' a xs := by
  rcases h with h | h
  · exact .inl (u.tup _ _ h)
  · exact .inr h
mutual
theorem R.up (u : Up G.K A A' H H') : ∀ (d : D) {v : V}, R G A H d v → R G A' H' d v
  | .non, _, h => h
  | .bl _, _, h => h
  | .int _, _, h => h
  | .str _, _, h => h
  | .tup l, _, ⟨a, xs, e, h1, h2⟩ => ⟨a, xs, e, u.seqT h1, RL.up u l h2⟩
  | .lst l, _, ⟨a, xs, e, h0, h1, h2⟩ => ⟨a, xs, e, (u.lst _ _ h0 h1).1, (u.lst _ _ h0 h1).2, RL.up u l h2⟩
  | .dct ks l, _, ⟨a, kvs, e, h1, h2, h3, h4⟩ => ⟨a, kvs, e, (u.dct _ _ h1 h2).1, (u.dct _ _ h1 h2).2, h3, RL.up u l h4⟩
  | .obj c l, _, ⟨a, dx, fs, e, h1, h2, h3, h4⟩ => ⟨a, dx, fs, e, (u.obj _ _ _ _ h1 h2).1, (u.obj _ _ _ _ h1 h2).2, h3, RL.up u l h4⟩
  | .exc _, _, h => h.elim
  | .scr l, _, ⟨a, e, h⟩ => ⟨a, e, u.scr _ _ h⟩
theorem RL.up (u : Up G.K A A' H H') : ∀ (l : List D) {xs : List V}, RL G A H l xs → RL G A' H' l xs
  | [], _, h => h
  | d :: l, _, ⟨x, r, e, h1, h2⟩ => ⟨x, r, e, R.up u d h1, RL.up u l h2⟩
end
def flat : D → Bool
  | .non | .bl _ | .int _ | .str _ => true
  | .tup l => flatL l
  | _ => false
where flatL : List D → Bool
  | [] => true
  | d :: l => flat d && flatL l
mutual
theorem R.flat : ∀ (d : D) {v : V}, flat d = true → R G A H d v → R G A' H d v
  | .non, _, _, h => h
  | .bl _, _, _, h => h
  | .int _, _, _, h => h
  | .str _, _, _, h => h
  | .tup l, _, f, ⟨a, xs, e, h1, h2⟩ => ⟨a, xs, e, h1, RL.flat l (by simpa [Pi.flat] using f) h2⟩
theorem RL.flat : ∀ (l : List D) {xs : List V}, flat.flatL l = true → RL G A H l xs → RL G A' H l xs
  | [], _, _, h => h
  | d :: l, _, f, ⟨x, r, e, h1, h2⟩ => by
    have f' : Pi.flat d = true ∧ flat.flatL l = true := by simpa [flat.flatL] using f
    exact ⟨x, r, e, R.flat d f'.1 h1, RL.flat l f'.2 h2⟩
end
end
end Pi
namespace Pi
open PySem PySem.Spec PyProof.Rows L2
structure Fr where
  H0 : Hp
  A0 : Addr → Prop
  S : Addr → Prop
  /-- what stands as it is (through a loop) -/
  L : Addr → Option HO
  /-- what the changed arguments are -/
  vl : Nat → Option V
def Fr.Sm (c : Fr) (H : Hp) : Prop := ∀ b o, ¬ c.S b → c.H0 b = some o → H b = some o
def Av (c : Fr) (O : Addr → Prop) (dp : Bool) (a : Addr) : Prop := ¬ O a ∧ (dp = true → c.H0 a = none) ∧ (c.H0 a = none ∨ c.A0 a)
theorem Av.undp {c : Fr} {O : Addr → Prop} {dp : Bool} {a : Addr} (h : Av c O dp a) : Av c O false a := ⟨h.1, fun z => by simp at z, h.2.2⟩
theorem Av.dpand {c : Fr} {O : Addr → Prop} {dp : Bool} {a : Addr} (p : Bool) (h : Av c O dp a) : Av c O (dp && p) a := ⟨h.1, fun z => h.2.1 (by revert z; cases dp <;> simp), h.2.2⟩
theorem Av.dpand' {c : Fr} {O : Addr → Prop} {dp : Bool} {a : Addr} (p : Bool) (h : Av c O dp a) : Av c O (p && dp) a := ⟨h.1, fun z => h.2.1 (by revert z; cases p <;> simp), h.2.2⟩
theorem rdS {H H' : Hp} {a : Addr} {u : HO} (h : Rd H a u) (s : Same H H') : Rd H' a u := by
  rcases h with h | ⟨o, h⟩
  · exact .inl (s _ _ h)
  · exact .inr ⟨o, s _ _ h⟩
theorem sfS {K : PySem.W.Frag} {H H' : Hp} {a : Addr} {xs : List V} (h : SqF K H a xs) (s : Same H H') : SqF K H' a xs := h.imp (fun ⟨o, h⟩ => ⟨o, s _ _ h⟩) id
theorem Up.same {K : PySem.W.Frag} {A A' : Addr → Prop} {H H' : Hp} (s : Same H H') (m : ∀ a, A a → A' a) : Up K A A' H H' :=
  ⟨fun a _ h r => ⟨m a h, s _ _ r⟩, fun a _ h r => ⟨m a h, rdS r s⟩, fun a _ _ _ h r => ⟨m a h, s _ _ r⟩, fun _ _ r => rdS r s, fun _ _ r => sfS r s⟩
def Im : HO → Prop
  | .tup _ => True
  | .frz _ (.lst _) => True
  | .frz _ (.tup _) => True
  | _ => False
def Wr : HO → Prop
  | .lst _ => True
  | .dK _ => True
  | .ins _ _ _ => True
  | _ => False
theorem rd_ne {H : Hp} {a p : Addr} {u o o' : HO} (r : Rd H a u) (hp : H p = some o) (w : Wr o) (ne : a ≠ p) : Rd (upd H p o') a u := by
  rcases r with r | ⟨q, r⟩
  · exact .inl (by rw [upd_ne ne]; exact r)
  · exact .inr ⟨q, by rw [upd_ne ne]; exact r⟩
theorem Up.write {K : PySem.W.Frag} {A : Addr → Prop} {H : Hp} {p : Addr} {o o' : HO} (hp : H p = some o) (w : Wr o) (n : ¬ A p) : Up K A A H (upd H p o') := by
  have ne : ∀ a, A a → a ≠ p := fun a h e => n (by rw [← e]; exact h)
  refine ⟨fun a xs h r => ⟨h, by rw [upd_ne (ne a h)]; exact r⟩, fun a xs h r => ⟨h, rd_ne r hp w (ne a h)⟩, fun a C dx fs h r => ⟨h, ?_⟩, fun a xs r => rd_ne r hp w ?_, fun a xs r => r.imp (fun ⟨q, r⟩ => ⟨q, ?_⟩) id⟩
  · rw [upd_ne (ne a h)]
    exact r
  · rintro rfl
    rcases r with r | ⟨q, r⟩
    · rw [hp] at r; cases r; exact w
    · rw [hp] at r; cases r; exact w
  · rw [upd_ne]
    · exact r
    · rintro rfl
      rw [hp] at r; cases r; exact w
theorem same_new {H : Hp} {p : Addr} {o : HO} (h : H p = none) : Same H (upd H p o) := fun b x e => by
  rw [upd_ne (ne_of_none e h)]
  exact e
section
variable (G : Gb) (A : Addr → Prop) (H : Hp)
def RO : D → V → List Addr → Prop
  | .lst l, v, os => ∃ a xs, v = .ref a ∧ os = [a] ∧ H a = some (.lst xs) ∧ RL G A H l xs
  | .dct ks l, v, os => ∃ a kvs, v = .ref a ∧ os = [a] ∧ H a = some (.dK kvs) ∧ kvs.map (·.1) = ks ∧ RL G A H l (kvs.map (·.2))
  | .obj c l, v, os => ∃ a dx fs, v = .ref a ∧ os = [a] ∧ H a = some (.ins (G.ca c) dx fs) ∧ fs.map (·.1) = (G.cf c).take l.length ∧ RL G A H l (fs.map (·.2))
  | .tup l, v, os => os = [] ∧ R G A H (.tup l) v
  | .non, v, os => os = [] ∧ v = .non
  | .bl b, v, os => os = [] ∧ v = .bl b
  | .int i, v, os => os = [] ∧ v = .int i
  | .str x, v, os => os = [] ∧ v = .str x
  | .exc _, _, _ => False
  | .scr l, v, os => os = [] ∧ R G A H (.scr l) v
def RB : D → V → Prop
  | .lst l, v => ∃ a xs, v = .ref a ∧ H a = some (.lst xs) ∧ RL G A H l xs
  | .scr l, v => R G A H (.scr l) v
  | .dct ks l, v => ∃ a kvs, v = .ref a ∧ Rd H a (.dK kvs) ∧ kvs.map (·.1) = ks ∧ RL G A H l (kvs.map (·.2))
  | .obj c l, v => ∃ a dx fs, v = .ref a ∧ H a = some (.ins (G.ca c) dx fs) ∧ fs.map (·.1) = (G.cf c).take l.length ∧ RL G A H l (fs.map (·.2))
  | .tup l, v => R G A H (.tup l) v
  | .non, v => v = .non
  | .bl b, v => v = .bl b
  | .int i, v => v = .int i
  | .str x, v => v = .str x
  | .exc _, _ => False
end
section
variable {G : Gb} {A A' : Addr → Prop} {H H' : Hp}
theorem R.b : ∀ {d : D} {v : V}, R G A H d v → RB G A H d v
  | .non, _, h => h
  | .bl _, _, h => h
  | .int _, _, h => h
  | .str _, _, h => h
  | .tup _, _, h => h
  | .lst _, _, ⟨a, xs, e, _, h1, h2⟩ => ⟨a, xs, e, h1, h2⟩
  | .scr _, _, h => h
  | .dct _ _, _, ⟨a, kvs, e, _, h2, h3, h4⟩ => ⟨a, kvs, e, h2, h3, h4⟩
  | .obj _ _, _, ⟨a, dx, fs, e, _, h2, h3, h4⟩ => ⟨a, dx, fs, e, h2, h3, h4⟩
  | .exc _, _, h => h.elim
theorem RO.b : ∀ {d : D} {v : V} {os : List Addr}, RO G A H d v os → RB G A H d v
  | .non, _, _, h => h.2
  | .bl _, _, _, h => h.2
  | .int _, _, _, h => h.2
  | .str _, _, _, h => h.2
  | .tup _, _, _, h => h.2
  | .lst _, _, _, ⟨a, xs, e, _, h1, h2⟩ => ⟨a, xs, e, h1, h2⟩
  | .scr _, _, _, h => h.2
  | .dct _ _, _, _, ⟨a, kvs, e, _, h2, h3, h4⟩ => ⟨a, kvs, e, .inl h2, h3, h4⟩
  | .obj _ _, _, _, ⟨a, dx, fs, e, _, h2, h3, h4⟩ => ⟨a, dx, fs, e, h2, h3, h4⟩
  | .exc _, _, _, h => h.elim
theorem RO.r : ∀ {d : D} {v : V} {os : List Addr}, RO G A H d v os → (∀ a, A a → A' a) → (∀ a, a ∈ os → A' a) → R G A' H d v
  | .non, _, _, h, _, _ => h.2
  | .bl _, _, _, h, _, _ => h.2
  | .int _, _, _, h, _, _ => h.2
  | .str _, _, _, h, _, _ => h.2
  | .tup l, _, _, h, m, _ => R.up (Up.same (Same.refl H) m) (.tup l) h.2
  | .lst l, _, _, ⟨a, xs, e, eo, h1, h2⟩, m, o => ⟨a, xs, e, o a (by rw [eo]; simp), h1, RL.up (Up.same (Same.refl H) m) l h2⟩
  | .dct _ l, _, _, ⟨a, kvs, e, eo, h2, h3, h4⟩, m, o => ⟨a, kvs, e, o a (by rw [eo]; simp), .inl h2, h3, RL.up (Up.same (Same.refl H) m) l h4⟩
  | .obj _ l, _, _, ⟨a, dx, fs, e, eo, h2, h3, h4⟩, m, o => ⟨a, dx, fs, e, o a (by rw [eo]; simp), h2, h3, RL.up (Up.same (Same.refl H) m) l h4⟩
  | .exc _, _, _, h, _, _ => h.elim
  | .scr _, _, _, h, _, _ => h.2
theorem RO.up : ∀ {d : D} {v : V} {os : List Addr}, RO G A H d v os → Up G.K A A' H H' → (∀ a o, a ∈ os → H a = some o → H' a = some o) → RO G A' H' d v os
  | .non, _, _, h, _, _ => h
  | .bl _, _, _, h, _, _ => h
  | .int _, _, _, h, _, _ => h
  | .str _, _, _, h, _, _ => h
  | .tup l, _, _, h, u, _ => ⟨h.1, R.up u (.tup l) h.2⟩
  | .lst l, _, _, ⟨a, xs, e, eo, h1, h2⟩, u, k => ⟨a, xs, e, eo, k a _ (by rw [eo]; simp) h1, RL.up u l h2⟩
  | .dct _ l, _, _, ⟨a, kvs, e, eo, h2, h3, h4⟩, u, k => ⟨a, kvs, e, eo, k a _ (by rw [eo]; simp) h2, h3, RL.up u l h4⟩
  | .obj _ l, _, _, ⟨a, dx, fs, e, eo, h2, h3, h4⟩, u, k => ⟨a, dx, fs, e, eo, k a _ (by rw [eo]; simp) h2, h3, RL.up u l h4⟩
  | .exc _, _, _, h, _, _ => h.elim
  | .scr l, _, _, h, u, _ => ⟨h.1, R.up u (.scr l) h.2⟩
theorem RB.up : ∀ {d : D} {v : V}, RB G A H d v → Up G.K A A' H H' → Same H H' → RB G A' H' d v
  | .non, _, h, _, _ => h
  | .bl _, _, h, _, _ => h
  | .int _, _, h, _, _ => h
  | .str _, _, h, _, _ => h
  | .tup l, _, h, u, _ => R.up u (.tup l) h
  | .lst l, _, ⟨a, xs, e, h1, h2⟩, u, k => ⟨a, xs, e, k _ _ h1, RL.up u l h2⟩
  | .scr l, _, h, u, _ => R.up u (.scr l) h
  | .dct _ l, _, ⟨a, kvs, e, h2, h3, h4⟩, u, k => ⟨a, kvs, e, rdS h2 k, h3, RL.up u l h4⟩
  | .obj _ l, _, ⟨a, dx, fs, e, h2, h3, h4⟩, u, k => ⟨a, dx, fs, e, k _ _ h2, h3, RL.up u l h4⟩
  | .exc _, _, h, _, _ => h.elim
theorem RB.r : ∀ {d : D} {v : V}, RB G A H d v → R G (fun _ => True) H d v
  | .non, _, h => h
  | .bl _, _, h => h
  | .int _, _, h => h
  | .str _, _, h => h
  | .tup l, _, h => R.up (Up.same (Same.refl H) fun _ _ => trivial) (.tup l) h
  | .lst l, _, ⟨a, xs, e, h1, h2⟩ => ⟨a, xs, e, trivial, h1, RL.up (Up.same (Same.refl H) fun _ _ => trivial) l h2⟩
  | .dct _ l, _, ⟨a, kvs, e, h2, h3, h4⟩ => ⟨a, kvs, e, trivial, h2, h3, RL.up (Up.same (Same.refl H) fun _ _ => trivial) l h4⟩
  | .obj _ l, _, ⟨a, dx, fs, e, h2, h3, h4⟩ => ⟨a, dx, fs, e, trivial, h2, h3, RL.up (Up.same (Same.refl H) fun _ _ => trivial) l h4⟩
  | .exc _, _, h => h.elim
  | .scr _, _, h => h
theorem RB.flat {d : D} {v : V} (f : flat d = true) (h : RB G A H d v) : R G A' H d v := by
  cases d with
  | non => exact h
  | bl _ => exact h
  | int _ => exact h
  | str _ => exact h
  | tup l => exact R.flat (.tup l) f h
  | lst _ => cases f
  | dct _ _ => cases f
  | obj _ _ => cases f
  | exc _ => cases f
  | scr _ => cases f
end
section
variable (G : Gb) (A : Addr → Prop) (H : Hp)
mutual
def RS : D → Sh → V → List Addr → Prop
  | .tup l, sh, v, os => match sh.its with
    | some e => ∃ a xs, v = .ref a ∧ SqT G.K H a xs ∧ RSP l e xs os
    | none => sh = .s ∧ os = [] ∧ R G A H (.tup l) v
  | .lst l, sh, v, os => match sh.its with
    | some e => ∃ a xs r, v = .ref a ∧ os = a :: r ∧ H a = some (.lst xs) ∧ RSP l e xs r
    | none => sh = .s ∧ os = [] ∧ R G A H (.lst l) v
  | .dct ks l, sh, v, os => match sh.its with
    | some e => ∃ a kvs r, v = .ref a ∧ os = a :: r ∧ H a = some (.dK kvs) ∧ kvs.map (·.1) = ks ∧ RSP l e (kvs.map (·.2)) r
    | none => sh = .s ∧ os = [] ∧ R G A H (.dct ks l) v
  | .obj c l, sh, v, os => match sh.fls with
    | some e => ∃ a dx fs r, v = .ref a ∧ os = a :: r ∧ H a = some (.ins (G.ca c) dx fs) ∧ fs.map (·.1) = (G.cf c).take l.length ∧ RSP l e (fs.map (·.2)) r
    | none => sh = .s ∧ os = [] ∧ R G A H (.obj c l) v
  | .scr l, _, v, os => os = [] ∧ R G A H (.scr l) v
  | .non, _, v, os => os = [] ∧ v = .non
  | .bl b, _, v, os => os = [] ∧ v = .bl b
  | .int i, _, v, os => os = [] ∧ v = .int i
  | .str x, _, v, os => os = [] ∧ v = .str x
  | .exc _, _, _, _ => False
def RSP : List D → Sh → List V → List Addr → Prop
  | [], _, xs, os => xs = [] ∧ os = []
  | d :: l, sh, xs, os => ∃ x r o1 o2, xs = x :: r ∧ os = o1 ++ o2 ∧ RS d sh.hd x o1 ∧ RSP l sh.tl r o2
end
end
section
variable {G : Gb} {A A' : Addr → Prop} {H H' : Hp}
mutual
/-- owned, then shared -/
theorem RS.r : ∀ (d : D) {sh : Sh} {v : V} {os : List Addr}, RS G A H d sh v os → (∀ a, A a → A' a) → (∀ a, a ∈ os → A' a) → R G A' H d v
  | .tup l, sh, v, os, h, m, o => by
    unfold RS at h
    split at h
    · obtain ⟨a, xs, e, h1, h2⟩ := h
      exact ⟨a, xs, e, h1, RSP.r l h2 m o⟩
    · exact R.up (Up.same (Same.refl H) m) _ h.2.2
  | .lst l, sh, v, os, h, m, o => by
    unfold RS at h
    split at h
    · obtain ⟨a, xs, r, e, eo, h1, h2⟩ := h
      exact ⟨a, xs, e, o a (by rw [eo]; simp), h1, RSP.r l h2 m fun b hb => o b (by rw [eo]; simp [hb])⟩
    · exact R.up (Up.same (Same.refl H) m) _ h.2.2
  | .dct ks l, sh, v, os, h, m, o => by
    unfold RS at h
    split at h
    · obtain ⟨a, kvs, r, e, eo, h1, h3, h2⟩ := h
      exact ⟨a, kvs, e, o a (by rw [eo]; simp), .inl h1, h3, RSP.r l h2 m fun b hb => o b (by rw [eo]; simp [hb])⟩
    · exact R.up (Up.same (Same.refl H) m) _ h.2.2
  | .obj c l, sh, v, os, h, m, o => by
    unfold RS at h
    split at h
    · obtain ⟨a, dx, fs, r, e, eo, h1, h3, h2⟩ := h
      exact ⟨a, dx, fs, e, o a (by rw [eo]; simp), h1, h3, RSP.r l h2 m fun b hb => o b (by rw [eo]; simp [hb])⟩
    · exact R.up (Up.same (Same.refl H) m) _ h.2.2
  | .scr l, _, _, _, h, m, _ => by unfold RS at h; exact h.2
  | .non, _, _, _, h, _, _ => by unfold RS at h; exact h.2
  | .bl _, _, _, _, h, _, _ => by unfold RS at h; exact h.2
  | .int _, _, _, _, h, _, _ => by unfold RS at h; exact h.2
  | .str _, _, _, _, h, _, _ => by unfold RS at h; exact h.2
  | .exc _, _, _, _, h, _, _ => by unfold RS at h; exact h.elim
theorem RSP.r : ∀ (l : List D) {sh : Sh} {xs : List V} {os : List Addr}, RSP G A H l sh xs os → (∀ a, A a → A' a) → (∀ a, a ∈ os → A' a) → RL G A' H l xs
  | [], _, _, _, h, _, _ => by unfold RSP at h; exact h.1
  | d :: l, sh, xs, os, h, m, o => by
    unfold RSP at h
    obtain ⟨x, r, o1, o2, e1, e2, h1, h2⟩ := h
    exact ⟨x, r, e1, RS.r d h1 m fun a z => o a (by rw [e2]; simp [z]), RSP.r l h2 m fun a z => o a (by rw [e2]; simp [z])⟩
end
mutual
theorem RS.up (u : Up G.K A A' H H') : ∀ (d : D) {sh : Sh} {v : V} {os : List Addr}, RS G A H d sh v os → (∀ a o, a ∈ os → H a = some o → H' a = some o) → RS G A' H' d sh v os
  | .tup l, sh, v, os, h, k => by
    unfold RS at h ⊢
    split at h
    · obtain ⟨a, xs, e, h1, h2⟩ := h
      exact ⟨a, xs, e, u.seqT h1, RSP.up u l h2 k⟩
    · exact ⟨h.1, h.2.1, R.up u _ h.2.2⟩
  | .lst l, sh, v, os, h, k => by
    unfold RS at h ⊢
    split at h
    · obtain ⟨a, xs, r, e, eo, h1, h2⟩ := h
      exact ⟨a, xs, r, e, eo, k a _ (by rw [eo]; simp) h1, RSP.up u l h2 fun b o hb => k b o (by rw [eo]; simp [hb])⟩
    · exact ⟨h.1, h.2.1, R.up u _ h.2.2⟩
  | .dct ks l, sh, v, os, h, k => by
    unfold RS at h ⊢
    split at h
    · obtain ⟨a, kvs, r, e, eo, h1, h3, h2⟩ := h
      exact ⟨a, kvs, r, e, eo, k a _ (by rw [eo]; simp) h1, h3, RSP.up u l h2 fun b o hb => k b o (by rw [eo]; simp [hb])⟩
    · exact ⟨h.1, h.2.1, R.up u _ h.2.2⟩
  | .obj c l, sh, v, os, h, k => by
    unfold RS at h ⊢
    split at h
    · obtain ⟨a, dx, fs, r, e, eo, h1, h3, h2⟩ := h
      exact ⟨a, dx, fs, r, e, eo, k a _ (by rw [eo]; simp) h1, h3, RSP.up u l h2 fun b o hb => k b o (by rw [eo]; simp [hb])⟩
    · exact ⟨h.1, h.2.1, R.up u _ h.2.2⟩
  | .scr l, _, _, _, h, _ => by unfold RS at h ⊢; exact ⟨h.1, R.up u _ h.2⟩
  | .non, _, _, _, h, _ => by unfold RS at h ⊢; exact h
  | .bl _, _, _, _, h, _ => by unfold RS at h ⊢; exact h
  | .int _, _, _, _, h, _ => by unfold RS at h ⊢; exact h
  | .str _, _, _, _, h, _ => by unfold RS at h ⊢; exact h
  | .exc _, _, _, _, h, _ => by unfold RS at h; exact h.elim
theorem RSP.up (u : Up G.K A A' H H') : ∀ (l : List D) {sh : Sh} {xs : List V} {os : List Addr}, RSP G A H l sh xs os → (∀ a o, a ∈ os → H a = some o → H' a = some o) → RSP G A' H' l sh xs os
  | [], _, _, _, h, _ => by unfold RSP at h ⊢; exact h
  | d :: l, sh, xs, os, h, k => by
    unfold RSP at h ⊢
    obtain ⟨x, r, o1, o2, e1, e2, h1, h2⟩ := h
    exact ⟨x, r, o1, o2, e1, e2, RS.up u d h1 fun a o z => k a o (by rw [e2]; simp [z]), RSP.up u l h2 fun a o z => k a o (by rw [e2]; simp [z])⟩
end
mutual
/-- what is owned is there, and may be written -/
theorem RS.wr : ∀ (d : D) {sh : Sh} {v : V} {os : List Addr}, RS G A H d sh v os → ∀ a, a ∈ os → ∃ o, H a = some o ∧ Wr o
  | .tup l, sh, v, os, h, b, hb => by
    unfold RS at h
    split at h
    · obtain ⟨a, xs, e, h1, h2⟩ := h
      exact RSP.wr l h2 b hb
    · rw [h.2.1] at hb; cases hb
  | .lst l, sh, v, os, h, b, hb => by
    unfold RS at h
    split at h
    · obtain ⟨a, xs, r, e, eo, h1, h2⟩ := h
      rw [eo] at hb
      rcases List.mem_cons.mp hb with z | z
      · rw [z]; exact ⟨_, h1, trivial⟩
      · exact RSP.wr l h2 b z
    · rw [h.2.1] at hb; cases hb
  | .dct ks l, sh, v, os, h, b, hb => by
    unfold RS at h
    split at h
    · obtain ⟨a, kvs, r, e, eo, h1, h3, h2⟩ := h
      rw [eo] at hb
      rcases List.mem_cons.mp hb with z | z
      · rw [z]; exact ⟨_, h1, trivial⟩
      · exact RSP.wr l h2 b z
    · rw [h.2.1] at hb; cases hb
  | .obj c l, sh, v, os, h, b, hb => by
    unfold RS at h
    split at h
    · obtain ⟨a, dx, fs, r, e, eo, h1, h3, h2⟩ := h
      rw [eo] at hb
      rcases List.mem_cons.mp hb with z | z
      · rw [z]; exact ⟨_, h1, trivial⟩
      · exact RSP.wr l h2 b z
    · rw [h.2.1] at hb; cases hb
  | .scr l, _, _, _, h, b, hb => by unfold RS at h; rw [h.1] at hb; cases hb
  | .non, _, _, _, h, b, hb => by unfold RS at h; rw [h.1] at hb; cases hb
  | .bl _, _, _, _, h, b, hb => by unfold RS at h; rw [h.1] at hb; cases hb
  | .int _, _, _, _, h, b, hb => by unfold RS at h; rw [h.1] at hb; cases hb
  | .str _, _, _, _, h, b, hb => by unfold RS at h; rw [h.1] at hb; cases hb
  | .exc _, _, _, _, h, _, _ => by unfold RS at h; exact h.elim
theorem RSP.wr : ∀ (l : List D) {sh : Sh} {xs : List V} {os : List Addr}, RSP G A H l sh xs os → ∀ a, a ∈ os → ∃ o, H a = some o ∧ Wr o
  | [], _, _, _, h, b, hb => by unfold RSP at h; rw [h.2] at hb; cases hb
  | d :: l, sh, xs, os, h, b, hb => by
    unfold RSP at h
    obtain ⟨x, r, o1, o2, e1, e2, h1, h2⟩ := h
    rw [e2] at hb
    rcases List.mem_append.mp hb with z | z
    · exact RS.wr d h1 b z
    · exact RSP.wr l h2 b z
end
mutual
/-- where all is owned, what is shared does not matter -/
theorem RS.any : ∀ (d : D) {v : V} {os : List Addr}, RS G A H d .u v os → RS G A' H d .u v os
  | .tup l, v, os, h => by
    unfold RS at h ⊢
    obtain ⟨a, xs, e, h1, h2⟩ := h
    exact ⟨a, xs, e, h1, RSP.any l h2⟩
  | .lst l, v, os, h => by
    unfold RS at h ⊢
    obtain ⟨a, xs, r, e, eo, h1, h2⟩ := h
    exact ⟨a, xs, r, e, eo, h1, RSP.any l h2⟩
  | .dct ks l, v, os, h => by
    unfold RS at h ⊢
    obtain ⟨a, kvs, r, e, eo, h1, h3, h2⟩ := h
    exact ⟨a, kvs, r, e, eo, h1, h3, RSP.any l h2⟩
  | .obj c l, v, os, h => by
    unfold RS at h ⊢
    obtain ⟨a, dx, fs, r, e, eo, h1, h3, h2⟩ := h
    exact ⟨a, dx, fs, r, e, eo, h1, h3, RSP.any l h2⟩
  | .scr l, _, _, h => by unfold RS at h ⊢; exact ⟨h.1, h.2⟩
  | .non, _, _, h => by unfold RS at h ⊢; exact h
  | .bl _, _, _, h => by unfold RS at h ⊢; exact h
  | .int _, _, _, h => by unfold RS at h ⊢; exact h
  | .str _, _, _, h => by unfold RS at h ⊢; exact h
  | .exc _, _, _, h => by unfold RS at h; exact h.elim
theorem RSP.any : ∀ (l : List D) {xs : List V} {os : List Addr}, RSP G A H l .u xs os → RSP G A' H l .u xs os
  | [], _, _, h => by unfold RSP at h ⊢; exact h
  | d :: l, xs, os, h => by
    unfold RSP at h ⊢
    obtain ⟨x, r, o1, o2, e1, e2, h1, h2⟩ := h
    exact ⟨x, r, o1, o2, e1, e2, RS.any d h1, RSP.any l h2⟩
end
end
section
structure Own where
  sl : Nat → List Addr
  tm : Addr → Prop
def ow (own : Own) (a : Addr) : Prop := (∃ i, a ∈ own.sl i) ∨ own.tm a
variable (G : Gb) (c : Fr) (w : Own) (H : Hp)
def RV : VF → D → V → Prop
  | .sh dp, d, v => R G (Av c (ow w) dp) H d v
  | .uq dp, d, v => ∃ os, RO G (Av c (ow w) dp) H d v os ∧ ∀ a, a ∈ os → w.tm a
  | .bo dp, d, v => RB G (Av c (ow w) dp) H d v
end
def VF.dp : VF → Bool
  | .sh d | .uq d | .bo d => d
def VF.nb : VF → Bool
  | .bo _ => false
  | _ => true
def Sub (O O' : Addr → Prop) (H : Hp) : Prop := ∀ a, O' a → O a ∨ H a = none
theorem sub_refl {O : Addr → Prop} {H : Hp} : Sub O O H := fun _ h => .inl h
theorem sub_trans {O O1 O2 : Addr → Prop} {H H1 : Hp} (a : Sub O O1 H) (s : Same H H1) (b : Sub O1 O2 H1) : Sub O O2 H := fun x h => by
  rcases b x h with z | z
  · exact a x z
  · exact .inr (s.free z)
theorem Up.grow {K : PySem.W.Frag} {c : Fr} {O O' : Addr → Prop} {d e : Bool} {H H' : Hp} (s : Same H H') (k : Sub O O' H) (hde : (d || !e) = true) : Up K (Av c O d) (Av c O' e) H H' := by
  have m : ∀ {a x}, Av c O d a → H a = some x → Av c O' e a := fun {a x} h q => by
    refine ⟨fun z => ?_, fun z => h.2.1 (by cases d <;> cases e <;> simp_all), h.2.2⟩
    rcases k a z with y | y
    · exact h.1 y
    · rw [q] at y; cases y
  refine ⟨fun a xs h r => ⟨m h r, s _ _ r⟩, fun a xs h r => ⟨?_, rdS r s⟩, fun a C dx fs h r => ⟨m h r, s _ _ r⟩, fun a xs r => rdS r s, fun a xs r => sfS r s⟩
  rcases r with r | ⟨_, r⟩
  · exact m h r
  · exact m h r
theorem Up.sub {K : PySem.W.Frag} {c : Fr} {O O' : Addr → Prop} {d e : Bool} {H : Hp} (k : ∀ a, O' a → O a) (hde : (d || !e) = true) : Up K (Av c O d) (Av c O' e) H H := Up.grow (Same.refl H) (fun a h => .inl (k a h)) hde
section
variable {G : Gb} {c : Fr} {w w' : Own} {H H' : Hp} {f : VF} {d : D} {v : V}
theorem RV.b (h : RV G c w H f d v) : RB G (Av c (ow w) f.dp) H d v := by
  cases f with
  | sh dp => exact R.b h
  | uq dp => obtain ⟨os, h, _⟩ := h; exact h.b
  | bo dp => exact h
theorem RB.grow {O O' : Addr → Prop} {p : Bool} (h : RB G (Av c O p) H d v) (s : Same H H') (k : Sub O O' H) : RB G (Av c O' p) H' d v := RB.up h (Up.grow s k (by cases p <;> rfl)) s
theorem RV.int {i : Int} (h : RV G c w H f (.int i) v) : v = .int i := h.b
theorem RV.bl {i : Bool} (h : RV G c w H f (.bl i) v) : v = .bl i := h.b
theorem RV.str {i : Str} (h : RV G c w H f (.str i) v) : v = .str i := h.b
theorem RV.non (h : RV G c w H f .non v) : v = .non := h.b
theorem RV.mkI (i : Int) : RV G c w H f (.int i) (.int i) := by cases f <;> first | exact ⟨[], ⟨rfl, rfl⟩, fun a h => by cases h⟩ | exact rfl
theorem RV.mkB (i : Bool) : RV G c w H f (.bl i) (.bl i) := by cases f <;> first | exact ⟨[], ⟨rfl, rfl⟩, fun a h => by cases h⟩ | exact rfl
theorem RV.mkS (i : Str) : RV G c w H f (.str i) (.str i) := by cases f <;> first | exact ⟨[], ⟨rfl, rfl⟩, fun a h => by cases h⟩ | exact rfl
theorem RV.mkN : RV G c w H f .non .non := by cases f <;> first | exact ⟨[], ⟨rfl, rfl⟩, fun a h => by cases h⟩ | exact rfl
end
end Pi
namespace Pi
open PySem PySem.Spec PyProof.Rows L2
def Own.put (w : Own) (i : Nat) (os : List Addr) : Own := ⟨fun j => if j = i then os else w.sl j, fun a => w.tm a ∧ a ∉ os⟩
def Own.rel (w : Own) (os : List Addr) : Own := ⟨w.sl, fun a => w.tm a ∧ a ∉ os⟩
def Own.res (w : Own) (p : Addr) : Own := ⟨w.sl, fun a => w.tm a ∨ a = p⟩
def SF.me : Option SF → Prop
  | some .z => True
  | some (.ma _) => True
  | _ => False
def SF.zf : Option SF → Prop
  | some .z => True
  | _ => False
theorem zf_set {F : List SF} {i j : Nat} {f : SF} (ne : i ≠ j) (h : SF.zf F[j]?) : SF.zf (F.set i f)[j]? := by rw [List.getElem?_set_ne ne]; exact h
section
variable (G : Gb) (c : Fr) (F : List SF) (en : En) (w : Own) (σ : L2.St) (H : Hp)
def Slt (i : Nat) : Prop :=
  match F[i]?, en[i]? with
  | some (.s dp), some (some d) => ∃ x, σ[i]? = some (some x) ∧ R G (Av c (ow w) dp) H d x
  | some (.o dp), some (some d) => ∃ x, σ[i]? = some (some x) ∧ RO G (Av c (ow w) dp) H d x (w.sl i)
  | some .z, some (some d) => ∃ x, σ[i]? = some (some x) ∧ RO G (Av c (ow w) false) H d x (w.sl i) ∧ ∀ a, a ∈ w.sl i → c.S a
  | some (.x a), _ => σ[i]? = some (some (.ref a))
  | some (.dt sh), some (some d) => ∃ x, σ[i]? = some (some x) ∧ RS G (Av c (ow w) false) H d sh x (w.sl i) ∧ (w.sl i).Nodup
  | some (.ma sh), some (some d) => ∃ x, σ[i]? = some (some x) ∧ RS G (Av c (ow w) false) H d sh x (w.sl i) ∧ (w.sl i).Nodup ∧ c.vl i = some x
  | _, _ => True
structure Ok : Prop where
  lF : F.length = σ.length
  lE : en.length = σ.length
  same : c.Sm H
  tr : ∀ a, c.S a → H a ≠ none
  dj : ∀ i j a, a ∈ w.sl i → a ∈ w.sl j → i = j
  dt : ∀ i a, a ∈ w.sl i → ¬ w.tm a
  nt : ∀ a, w.tm a → H a ≠ none ∧ c.H0 a = none
  nw : ∀ i a, a ∈ w.sl i → H a ≠ none ∧ (c.H0 a = none ∨ (SF.zf F[i]? ∧ c.S a))
  sl : ∀ i, Slt G c F en w σ H i
  lk : ∀ a o, c.L a = some o → H a = some o ∧ (Im o ∨ ¬ ow w a)
end
def VF.slot : VF → SF
  | .sh d => .s d
  | .uq d => .o d
  | .bo _ => .n
section
variable {G : Gb} {c : Fr} {F : List SF} {en : En} {w w' : Own} {σ : L2.St} {H H' : Hp}
theorem Ok.free (ok : Ok G c F en w σ H) {a : Addr} (h : H a = none) : c.H0 a = none := by
  by_cases s : c.S a
  · exact absurd h (ok.tr a s)
  · cases q : c.H0 a with
    | none => rfl
    | some o => rw [ok.same a o s q] at h; cases h
theorem Ok.trk (ok : Ok G c F en w σ H) {a : Addr} (h : ow w a) : H a ≠ none := by
  rcases h with ⟨i, hi⟩ | h
  · exact (ok.nw i a hi).1
  · exact (ok.nt a h).1
theorem Ok.get (ok : Ok G c F en w σ H) {i : Nat} {d : D} (he : en[i]? = some (some d)) {f : SF} (hf : F[i]? = some f) (hn : f ≠ .n) (hx : ∀ a, f ≠ .x a := by simp) :
    ∃ x, σ[i]? = some (some x) ∧ (match f with | .s dp => R G (Av c (ow w) dp) H d x | .o dp => RO G (Av c (ow w) dp) H d x (w.sl i) | .z => RO G (Av c (ow w) false) H d x (w.sl i) | _ => True) := by
  have s := ok.sl i
  unfold Slt at s
  rw [he, hf] at s
  cases f with
  | n => exact absurd rfl hn
  | s dp => obtain ⟨x, h1, h2⟩ := s; exact ⟨x, h1, h2⟩
  | o dp => obtain ⟨x, h1, h2⟩ := s; exact ⟨x, h1, h2⟩
  | z => obtain ⟨x, h1, h2, _⟩ := s; exact ⟨x, h1, h2⟩
  | dt sh => obtain ⟨x, h1, _⟩ := s; exact ⟨x, h1, trivial⟩
  | ma sh => obtain ⟨x, h1, _⟩ := s; exact ⟨x, h1, trivial⟩
  | x a => exact absurd rfl (hx a)
theorem same_ne {a : Addr} (s : Same H H') (h : H a ≠ none) : H' a ≠ none := by
  cases q : H a with
  | none => exact absurd q h
  | some o => rw [s _ _ q]; simp
theorem Slt.grow {i : Nat} (h : Slt G c F en w σ H i) (s : Same H H') (e : w'.sl i = w.sl i) (k : Sub (ow w) (ow w') H) : Slt G c F en w' σ H' i := by
  unfold Slt at h ⊢
  split
  · rename_i dp d hf he; rw [hf, he] at h; obtain ⟨x, h1, h2⟩ := h; exact ⟨x, h1, R.up (Up.grow s k (by cases dp <;> rfl)) _ h2⟩
  · rename_i dp d hf he; rw [hf, he] at h; obtain ⟨x, h1, h2⟩ := h; refine ⟨x, h1, ?_⟩; rw [e]; exact RO.up h2 (Up.grow s k (by cases dp <;> rfl)) fun a o _ q => s _ _ q
  · rename_i d hf he; rw [hf, he] at h; obtain ⟨x, h1, h2, h3⟩ := h; refine ⟨x, h1, ?_⟩; rw [e]; exact ⟨RO.up h2 (Up.grow s k rfl) (fun a o _ q => s _ _ q), h3⟩
  · rename_i hf; rw [hf] at h; simpa using h
  · rename_i sh d hf he; rw [hf, he] at h; obtain ⟨x, h1, h2, h3⟩ := h; refine ⟨x, h1, ?_⟩; rw [e]; exact ⟨RS.up (Up.grow s k rfl) _ h2 (fun a o _ q => s _ _ q), h3⟩
  · rename_i sh d hf he; rw [hf, he] at h; obtain ⟨x, h1, h2, h3⟩ := h; refine ⟨x, h1, ?_⟩; rw [e]; exact ⟨RS.up (Up.grow s k rfl) _ h2 (fun a o _ q => s _ _ q), h3⟩
  · trivial
theorem Ok.grow (ok : Ok G c F en w σ H) (s : Same H H') : Ok G c F en w σ H' where
  lF := ok.lF
  lE := ok.lE
  same := fun b o n e => s _ _ (ok.same b o n e)
  tr := fun a h => same_ne s (ok.tr a h)
  dj := ok.dj
  dt := ok.dt
  nt := fun a h => ⟨same_ne s (ok.nt a h).1, (ok.nt a h).2⟩
  nw := fun i a h => ⟨same_ne s (ok.nw i a h).1, (ok.nw i a h).2⟩
  sl := fun i => (ok.sl i).grow s rfl sub_refl
  lk := fun a o h => ⟨s _ _ (ok.lk a o h).1, (ok.lk a o h).2⟩
theorem Ok.res (ok : Ok G c F en w σ H) {p : Addr} {o : HO} (hp : H p = none) : Ok G c F en (w.res p) σ (upd H p o) where
  lF := ok.lF
  lE := ok.lE
  same := fun b o n e => same_new hp _ _ (ok.same b o n e)
  tr := fun a h => same_ne (same_new hp) (ok.tr a h)
  dj := ok.dj
  dt := fun i a h z => z.elim (ok.dt i a h) fun e => by subst e; exact (ok.nw i _ h).1 hp
  nt := fun a h => h.elim (fun h => ⟨same_ne (same_new hp) (ok.nt a h).1, (ok.nt a h).2⟩) fun e => by subst e; exact ⟨by rw [upd_same]; simp, ok.free hp⟩
  nw := fun i a h => ⟨same_ne (same_new hp) (ok.nw i a h).1, (ok.nw i a h).2⟩
  sl := fun i => (ok.sl i).grow (same_new hp) rfl fun a h => by
    rcases h with h | h | h
    · exact .inl (.inl h)
    · exact .inl (.inr h)
    · subst h; exact .inr hp
  lk := fun a o h => ⟨same_new hp _ _ (ok.lk a o h).1, (ok.lk a o h).2.imp id fun n z => by
    rcases z with z | z | z
    · exact n (.inl z)
    · exact n (.inr z)
    · subst z; have := (ok.lk _ o h).1; rw [hp] at this; cases this⟩
theorem sub_res {p : Addr} (hp : H p = none) : Sub (ow w) (ow (w.res p)) H := fun a h => by
  rcases h with h | h | h
  · exact .inl (.inl h)
  · exact .inl (.inr h)
  · subst h; exact .inr hp
theorem ow_rel {os : List Addr} {a : Addr} (h : ow (w.rel os) a) : ow w a := h.imp id And.left
theorem Ok.rel (ok : Ok G c F en w σ H) (os : List Addr) : Ok G c F en (w.rel os) σ H where
  lF := ok.lF
  lE := ok.lE
  same := ok.same
  tr := ok.tr
  dj := ok.dj
  dt := fun i a h z => ok.dt i a h z.1
  nt := fun a h => ok.nt a h.1
  nw := ok.nw
  sl := fun i => (ok.sl i).grow (Same.refl H) rfl fun a h => .inl (ow_rel h)
  lk := fun a o h => ⟨(ok.lk a o h).1, (ok.lk a o h).2.imp id fun n z => n (ow_rel z)⟩
theorem RV.share {f : VF} {d : D} {v : V} (ok : Ok G c F en w σ H) (h : RV G c w H f d v) (n : f.nb = true) : ∃ w', Ok G c F en w' σ H ∧ (∀ a, ow w' a → ow w a) ∧ R G (Av c (ow w') f.dp) H d v := by
  cases f with
  | sh dp => exact ⟨w, ok, fun _ h => h, h⟩
  | uq dp =>
    obtain ⟨os, h, q⟩ := h
    refine ⟨w.rel os, ok.rel os, fun _ h => ow_rel h, RO.r h (fun a z => ⟨fun y => z.1 (ow_rel y), z.2⟩) fun a z => ?_⟩
    have nn := (ok.nt a (q a z)).2
    refine ⟨fun y => ?_, fun _ => nn, .inl nn⟩
    rcases y with ⟨i, hi⟩ | y
    · exact ok.dt i a hi (q a z)
    · exact y.2 z
  | bo dp => cases n
def SF.wk : SF → SF → Bool
  | _, .n => true
  | .s d, .s e => d || !e
  | .o d, .s e => d || !e
  | .o d, .o e => d || !e
  | .z, .z => true
  | .dt sh, .s e => decide (sh = .u) || !e
  | .dt a, .dt b => decide (a = b)
  | .ma a, .ma b => decide (a = b)
  | .ma _, .s e => !e
  | .x a, .x b => a == b
  | _, _ => false
def wkL : List SF → List SF → Bool
  | [], [] => true
  | f :: F, g :: F' => f.wk g && wkL F F'
  | _, _ => false
theorem wkL_len : ∀ {F F' : List SF}, wkL F F' = true → F.length = F'.length
  | [], [], _ => rfl
  | _ :: F, _ :: F', h => by
    simp only [wkL, Bool.and_eq_true] at h
    exact congrArg Nat.succ (wkL_len h.2)
  | [], _ :: _, h => by cases h
  | _ :: _, [], h => by cases h
theorem wkL_at : ∀ {F F' : List SF} {i : Nat} {g : SF}, wkL F F' = true → F'[i]? = some g → ∃ f, F[i]? = some f ∧ f.wk g = true
  | [], [], i, g, _, e => by simp at e
  | f :: F, g :: F', 0, g', h, e => by
    simp only [wkL, Bool.and_eq_true] at h
    simp at e; subst e
    exact ⟨f, rfl, h.1⟩
  | f :: F, g :: F', i + 1, g', h, e => by
    simp only [wkL, Bool.and_eq_true] at h
    exact wkL_at (i := i) h.2 (by simpa using e)
  | [], _ :: _, _, _, h, _ => by cases h
  | _ :: _, [], _, _, h, _ => by cases h
def SF.owns : SF → Bool
  | .o _ | .z | .dt _ | .ma _ => true
  | _ => false
theorem Ok.weak (ok : Ok G c F en w σ H) {F' : List SF} (h : wkL F F' = true) : ∃ w' : Own, Ok G c F' en w' σ H ∧ (∀ a, ow w' a → ow w a) ∧ w'.tm = w.tm := by
  refine ⟨⟨fun i => if (F'[i]?.map SF.owns).getD false = true then w.sl i else [], w.tm⟩, ?_⟩
  generalize ho : (fun i => if (F'[i]?.map SF.owns).getD false = true then w.sl i else []) = sl'
  have hsub : ∀ i a, a ∈ sl' i → a ∈ w.sl i := fun i a hm => by
    rw [← ho] at hm
    dsimp only at hm
    split at hm
    · exact hm
    · cases hm
  have hs : ∀ a, ow ⟨sl', w.tm⟩ a → ow w a := fun a q => q.imp (fun ⟨i, hi⟩ => ⟨i, hsub i a hi⟩) id
  have how : ∀ i g, F'[i]? = some g → g.owns = true → sl' i = w.sl i := fun i g h1 h2 => by
    rw [← ho]
    dsimp only
    rw [h1]
    simp [h2]
  have hno : ∀ i g, F'[i]? = some g → g.owns = false → sl' i = [] := fun i g h1 h2 => by
    rw [← ho]
    dsimp only
    rw [h1]
    simp [h2]
  refine ⟨⟨(wkL_len h).symm.trans ok.lF, ok.lE, ok.same, ok.tr, fun i j a h1 h2 => ok.dj i j a (hsub i a h1) (hsub j a h2), fun i a hm => ok.dt i a (hsub i a hm), ok.nt, fun i a hm => ?_, fun i => ?_, fun a o h => ⟨(ok.lk a o h).1, (ok.lk a o h).2.imp id fun n z => n (hs a z)⟩⟩, hs, rfl⟩
  · obtain ⟨q1, q2⟩ := ok.nw i a (hsub i a hm)
    refine ⟨q1, q2.imp id fun ⟨q3, q4⟩ => ⟨?_, q4⟩⟩
    cases hg : F'[i]? with
    | none =>
      have hm' : a ∈ sl' i := hm
      rw [← ho] at hm'
      dsimp only at hm'
      rw [hg] at hm'
      simp at hm'
    | some g =>
      obtain ⟨f, hf, hw⟩ := wkL_at h hg
      rw [hf] at q3
      have hm' : a ∈ sl' i := hm
      cases g with
      | z => trivial
      | ma _ => cases f <;> first | exact False.elim q3 | cases hw
      | n => rw [hno i _ hg rfl] at hm'; cases hm'
      | s _ => rw [hno i _ hg rfl] at hm'; cases hm'
      | x _ => rw [hno i _ hg rfl] at hm'; cases hm'
      | o _ => cases f <;> first | exact False.elim q3 | cases hw
      | dt _ => cases f <;> first | exact False.elim q3 | cases hw
  · have hsl := ok.sl i
    unfold Slt at hsl ⊢
    cases hg : F'[i]? with
    | none => simp
    | some g =>
      obtain ⟨f, hf, hw⟩ := wkL_at h hg
      rw [hf] at hsl
      by_cases gx : ∃ a, g = .x a
      · obtain ⟨a, rfl⟩ := gx
        have fx : f = .x a := by
          cases f with
          | x b => have : b = a := by simpa [SF.wk] using hw
                   rw [this]
          | _ => cases hw
        subst fx
        simpa using hsl
      cases he : en[i]? with
      | none => cases g <;> first | (exact absurd ⟨_, rfl⟩ gx) | simp
      | some od =>
        cases od with
        | none => cases g <;> first | (exact absurd ⟨_, rfl⟩ gx) | simp
        | some d =>
          rw [he] at hsl
          have nz : ∀ a o, a ∈ w.sl i → H a = some o → H a = some o := fun _ _ _ z => z
          cases g with
          | n => trivial
          | x a => exact absurd ⟨_, rfl⟩ gx
          | s e =>
            cases f with
            | n => cases hw
            | z => cases hw
            | x _ => cases hw
            | s dp => obtain ⟨x, h1, h2⟩ := hsl; exact ⟨x, h1, R.up (Up.sub hs hw) _ h2⟩
            | o dp =>
              obtain ⟨x, h1, h2⟩ := hsl
              refine ⟨x, h1, RO.r h2 (fun a z => ⟨fun y => z.1 (hs a y), fun y => z.2.1 (by cases dp <;> cases e <;> simp_all [SF.wk]), z.2.2⟩) fun a z => ?_⟩
              have hnz : c.H0 a = none := ((ok.nw i a z).2.resolve_right fun ⟨q, _⟩ => by rw [hf] at q; cases q)
              refine ⟨fun y => ?_, fun _ => hnz, .inl hnz⟩
              rcases y with ⟨j, hj⟩ | y
              · have ij : i = j := ok.dj i j a z (hsub j a hj)
                subst ij
                have hj' : a ∈ sl' i := hj
                rw [hno i _ hg rfl] at hj'
                cases hj'
              · exact ok.dt i a z y
            | ma sh =>
              obtain ⟨x, h1, h2, _⟩ := hsl
              have oo : ∀ a, a ∈ w.sl i → Av c (ow ⟨sl', w.tm⟩) e a := fun a z => by
                have hnz : c.H0 a = none := ((ok.nw i a z).2.resolve_right fun ⟨q, _⟩ => by rw [hf] at q; cases q)
                refine ⟨fun y => ?_, fun _ => hnz, .inl hnz⟩
                rcases y with ⟨j, hj⟩ | y
                · have ij : i = j := ok.dj i j a z (hsub j a hj)
                  subst ij
                  have hj' : a ∈ sl' i := hj
                  rw [hno i _ hg rfl] at hj'
                  cases hj'
                · exact ok.dt i a z y
              refine ⟨x, h1, ?_⟩
              have e0 : e = false := by
                cases e with
                | false => rfl
                | true => cases hw
              exact RS.r d h2 (fun a z => ⟨fun y => z.1 (hs a y), fun y => (by rw [e0] at y; cases y), z.2.2⟩) oo
            | dt sh =>
              obtain ⟨x, h1, h2, _⟩ := hsl
              have oo : ∀ a, a ∈ w.sl i → Av c (ow ⟨sl', w.tm⟩) e a := fun a z => by
                have hnz : c.H0 a = none := ((ok.nw i a z).2.resolve_right fun ⟨q, _⟩ => by rw [hf] at q; cases q)
                refine ⟨fun y => ?_, fun _ => hnz, .inl hnz⟩
                rcases y with ⟨j, hj⟩ | y
                · have ij : i = j := ok.dj i j a z (hsub j a hj)
                  subst ij
                  have hj' : a ∈ sl' i := hj
                  rw [hno i _ hg rfl] at hj'
                  cases hj'
                · exact ok.dt i a z y
              refine ⟨x, h1, ?_⟩
              by_cases u : sh = .u
              · subst u
                exact RS.r d (RS.any d h2 (A' := fun _ => False)) (fun a z => z.elim) oo
              · have e0 : e = false := by
                  cases e with
                  | false => rfl
                  | true => simp [SF.wk, u] at hw
                exact RS.r d h2 (fun a z => ⟨fun y => z.1 (hs a y), fun y => (by rw [e0] at y; cases y), z.2.2⟩) oo
          | o e =>
            cases f with
            | n => cases hw
            | z => cases hw
            | x _ => cases hw
            | s dp => cases hw
            | o dp =>
              obtain ⟨x, h1, h2⟩ := hsl
              refine ⟨x, h1, ?_⟩
              show RO G _ H d x (sl' i)
              rw [how i _ hg rfl]
              exact RO.up h2 (Up.sub hs hw) nz
            | dt _ => cases hw
            | ma _ => cases hw
          | dt sh =>
            cases f with
            | n => cases hw
            | s dp => cases hw
            | o dp => cases hw
            | x _ => cases hw
            | z => cases hw
            | ma _ => cases hw
            | dt sh' =>
              have es : sh' = sh := of_decide_eq_true hw
              subst es
              obtain ⟨x, h1, h2, h3⟩ := hsl
              refine ⟨x, h1, ?_⟩
              show RS G _ H d sh' x (sl' i) ∧ (sl' i).Nodup
              rw [how i _ hg rfl]
              exact ⟨RS.up (Up.sub hs rfl) _ h2 nz, h3⟩
          | ma sh =>
            cases f with
            | n => cases hw
            | s dp => cases hw
            | o dp => cases hw
            | x _ => cases hw
            | z => cases hw
            | dt _ => cases hw
            | ma sh' =>
              have es : sh' = sh := of_decide_eq_true hw
              subst es
              obtain ⟨x, h1, h2, h3⟩ := hsl
              refine ⟨x, h1, ?_⟩
              show RS G _ H d sh' x (sl' i) ∧ (sl' i).Nodup ∧ c.vl i = some x
              rw [how i _ hg rfl]
              exact ⟨RS.up (Up.sub hs rfl) _ h2 nz, h3⟩
          | z =>
            cases f with
            | n => cases hw
            | s dp => cases hw
            | o dp => cases hw
            | x _ => cases hw
            | dt _ => cases hw
            | ma _ => cases hw
            | z =>
              obtain ⟨x, h1, h2, h3⟩ := hsl
              refine ⟨x, h1, ?_⟩
              show RO G _ H d x (sl' i) ∧ ∀ a, a ∈ sl' i → c.S a
              rw [how i _ hg rfl]
              exact ⟨RO.up h2 (Up.sub hs rfl) nz, h3⟩
theorem ow_put {i : Nat} {os : List Addr} {a : Addr} (h : ow (w.put i os) a) : a ∈ os ∨ ow w a := by
  rcases h with ⟨j, hj⟩ | h
  · unfold Own.put at hj
    dsimp only at hj
    split at hj
    · exact .inl hj
    · exact .inr (.inl ⟨j, hj⟩)
  · exact .inr (.inr h.1)
theorem Ok.put {f : VF} {d : D} {v : V} (ok : Ok G c F en w σ H) {i : Nat} (hi : i < F.length) (hz : ¬ SF.me F[i]?) (r : RV G c w H f d v) (n : f.nb = true) :
    ∃ w', Ok G c (F.set i f.slot) (en.set i (some d)) w' (σ.set i (some v)) H ∧ (∀ a, ow w' a → ow w a) := by
  obtain ⟨os, hos, hr⟩ : ∃ os : List Addr, (∀ a, a ∈ os → w.tm a) ∧ (match f with | .sh dp => os = [] ∧ R G (Av c (ow w) dp) H d v | .uq dp => RO G (Av c (ow w) dp) H d v os | .bo _ => False) := by
    cases f with
    | sh dp => exact ⟨[], (fun a h => by cases h), rfl, r⟩
    | uq dp => obtain ⟨os, h, q⟩ := r; exact ⟨os, q, h⟩
    | bo dp => cases n
  have hsub : ∀ a, ow (w.put i os) a → ow w a := fun a h => (ow_put h).elim (fun h => .inr (hos a h)) id
  have hσ : i < σ.length := by rw [← ok.lF]; exact hi
  refine ⟨w.put i os, ⟨by simpa using ok.lF, by simpa using ok.lE, ok.same, ok.tr, fun j k a h1 h2 => ?_, fun j a h z => ?_, fun a h => ok.nt a h.1, fun j a h => ?_, fun j => ?_, fun a o h => ⟨(ok.lk a o h).1, (ok.lk a o h).2.imp id fun n z => n (hsub a z)⟩⟩, hsub⟩
  · unfold Own.put at h1 h2
    dsimp only at h1 h2
    split at h1
    · split at h2
      · rename_i e1 e2; rw [e1, e2]
      · exact absurd (hos a h1) (ok.dt k a h2)
    · split at h2
      · exact absurd (hos a h2) (ok.dt j a h1)
      · exact ok.dj j k a h1 h2
  · have h' := h
    unfold Own.put at h'
    dsimp only at h'
    split at h'
    · exact z.2 h'
    · exact ok.dt j a h' z.1
  · unfold Own.put at h
    dsimp only at h
    split at h
    · exact ⟨(ok.nt a (hos a h)).1, .inl (ok.nt a (hos a h)).2⟩
    · rename_i ne
      obtain ⟨q1, q2⟩ := ok.nw j a h
      refine ⟨q1, q2.imp id fun ⟨q3, q4⟩ => ⟨?_, q4⟩⟩
      rw [List.getElem?_set_ne (fun e => ne e.symm)]
      exact q3
  · by_cases e : j = i
    · subst e
      unfold Slt
      rw [List.getElem?_set_self hi, List.getElem?_set_self (by rw [ok.lE]; exact hσ)]
      have es : (w.put j os).sl j = os := if_pos rfl
      cases f with
      | sh dp =>
        obtain ⟨_, h⟩ := hr
        exact ⟨v, List.getElem?_set_self hσ, R.up (Up.sub hsub (by cases dp <;> rfl)) _ h⟩
      | uq dp =>
        refine ⟨v, List.getElem?_set_self hσ, ?_⟩
        rw [es]
        exact RO.up hr (Up.sub hsub (by cases dp <;> rfl)) fun _ _ _ z => z
      | bo dp => exact hr.elim
    · have h := ok.sl j
      have es : (w.put i os).sl j = w.sl j := if_neg e
      have h2 := h.grow (w' := w.put i os) (Same.refl H) es fun a h => .inl (hsub a h)
      unfold Slt at h2 ⊢
      rw [List.getElem?_set_ne (fun z => e z.symm), List.getElem?_set_ne (fun z => e z.symm), List.getElem?_set_ne (fun z => e z.symm)]
      exact h2
end
end Pi
namespace Pi
open PySem PySem.Spec PyProof.Rows L2
def locB (sc : Scope) (x : Str) : Bool := match sc.names.lookup x with
  | some .local | some .cell => true
  | _ => false
structure Gv (G : Gb) (N : List Str) (sc : Scope) (X : Cx) : Prop where
  prog : X.prog = G.P
  w : X.w = G.w
  K : X.K = G.K
  mg : X.mg = G.mg
  base : X.base = G.base
  nN : X.N = N
  nd : N.Nodup
  sc : X.env.scope = sc
  un : X.A.units + 64 < cLine
structure Gd (G : Gb) (N : List Str) (sc : Scope) (k : Nat) (W : WX) (X : Cx) : Prop extends Gv G N sc X where
  calm : X.calm = true
  room : Room k X.A
  tk : Takes X W
  po : PassesOwn (model X.prog X.w) X.A X.env X.xe
theorem pe_imp {X : Cx} {e : Expr} {t t' : TE} (h : PE X e t) (m : ∀ σ H Q, t' σ H Q → t σ H Q) : PE X e t' := ⟨fun pins s σ H Q I q => h.run pins s σ H Q I (m σ H Q q)⟩
theorem pt_imp {X : Cx} {e : Expr} {t t' : TT} (h : PT X e t) (m : ∀ σ H Q, t' σ H Q → t σ H Q) : PT X e t' := ⟨fun pins s σ H Q I q => h.run pins s σ H Q I (m σ H Q q)⟩
theorem pa_imp {X : Cx} {e : List Expr} {t t' : TA} (h : PA X e t) (m : ∀ σ H Q, t' σ H Q → t σ H Q) : PA X e t' := ⟨fun pos pins s σ H Q I q => h.run pos pins s σ H Q I (m σ H Q q)⟩
theorem ps_imp {X : Cx} {e : Stmt} {t t' : TS} (h : PS X e t) (m : ∀ D σ H, t' D σ H → t D σ H) : PS X e t' := ⟨fun pins s σ H D I q => h.run pins s σ H D I (m D σ H q)⟩
theorem pss_imp {X : Cx} {e : List Stmt} {t t' : TS} (h : PSs X e t) (m : ∀ D σ H, t' D σ H → t D σ H) : PSs X e t' := ⟨fun pins s σ H D I q => h.run pins s σ H D I (m D σ H q)⟩
def Mt (G : Gb) (W : WX) (c : Fr) (σ : L2.St) {α : Type} (r : Rs α) (k : α → Prop) : Prop :=
  match r with
  | .ok a => k a
  | .error (.raise e) => ∀ H', c.Sm H' → W (.ref (G.xa e)) none σ H'
  | .error .stuck => False
theorem Mt.bnd {G : Gb} {W : WX} {c : Fr} {σ : L2.St} {α β : Type} {r : Rs α} {f : α → Rs β} {k : β → Prop} (h : Mt G W c σ (bnd r f) k) : Mt G W c σ r fun a => Mt G W c σ (f a) k := by
  cases r with
  | ok a => exact h
  | error e => cases e with
    | raise e => exact h
    | stuck => exact h
theorem Mt.imp {G : Gb} {W : WX} {c : Fr} {σ : L2.St} {α : Type} {r : Rs α} {k k' : α → Prop} (h : Mt G W c σ r k) (m : ∀ a, r = .ok a → k a → k' a) : Mt G W c σ r k' := by
  cases r with
  | ok a => exact m a rfl h
  | error e => cases e with
    | raise e => exact h
    | stuck => exact h
def TEv (G : Gb) (W : WX) (F F' : List SF) (f : VF) (ev : EvE) : TE := fun σ H Q => ∃ (c : Fr) (en : En) (own : Own), Ok G c F en own σ H ∧
  Mt G W c σ (ev en) fun d => ∀ v H' own', Ok G c F' en own' σ H' → Same H H' → Sub (ow own) (ow own') H → RV G c own' H' f d v → Q v H'
def RA (G : Gb) (c : Fr) (O : Addr → Prop) (H : Hp) : VF → D → V → Prop
  | .bo dp, d, v => RB G (Av c O dp) H d v
  | f, d, v => R G (Av c O f.dp) H d v
def RVL (G : Gb) (c : Fr) (O : Addr → Prop) (H : Hp) : List VF → List D → List V → Prop
  | [], ds, vs => ds = [] ∧ vs = []
  | f :: fs, ds, vs => ∃ d r v t, ds = d :: r ∧ vs = v :: t ∧ RA G c O H f d v ∧ RVL G c O H fs r t
theorem RA.up {G : Gb} {c : Fr} {O O' : Addr → Prop} {H H' : Hp} {f : VF} {d : D} {v : V} (h : RA G c O H f d v) (s : Same H H') (k : Sub O O' H) : RA G c O' H' f d v := by
  cases f with
  | sh dp => exact R.up (Up.grow s k (by cases dp <;> rfl)) _ h
  | uq dp => exact R.up (Up.grow s k (by cases dp <;> rfl)) _ h
  | bo dp => exact RB.grow h s k
theorem RA.b {G : Gb} {c : Fr} {O : Addr → Prop} {H : Hp} {f : VF} {d : D} {v : V} (h : RA G c O H f d v) : RB G (Av c O f.dp) H d v := by
  cases f with
  | sh dp => exact R.b h
  | uq dp => exact R.b h
  | bo dp => exact h
theorem RVL.up {G : Gb} {c : Fr} {O O' : Addr → Prop} {H H' : Hp} : ∀ {fs : List VF} {ds : List D} {vs : List V}, RVL G c O H fs ds vs → Same H H' → Sub O O' H → RVL G c O' H' fs ds vs
  | [], _, _, h, _, _ => h
  | _ :: fs, _, _, ⟨d, r, v, t, e1, e2, h1, h2⟩, s, k => ⟨d, r, v, t, e1, e2, h1.up s k, RVL.up (fs := fs) h2 s k⟩
def TAv (G : Gb) (W : WX) (F F' : List SF) (fs : List VF) (ev : En → Rs (List D)) : TA := fun σ H Q => ∃ (c : Fr) (en : En) (own : Own), Ok G c F en own σ H ∧
  Mt G W c σ (ev en) fun ds => ∀ vs H' own', Ok G c F' en own' σ H' → Same H H' → Sub (ow own) (ow own') H → RVL G c (ow own') H' fs ds vs → Q vs H'
def TTv (G : Gb) (W : WX) (F F' : List SF) (ev : En → Rs Bool) : TT := fun σ H Q => ∃ (c : Fr) (en : En) (own : Own), Ok G c F en own σ H ∧
  Mt G W c σ (ev en) fun b => ∀ H' own', Ok G c F' en own' σ H' → Same H H' → Sub (ow own) (ow own') H → Q b H'
section
variable {G : Gb} {W : WX} {N : List Str} {sc : Scope} {k : Nat} {X : Cx} {F F1 F2 F3 : List SF} {f f1 f2 : VF} {c : Fr} {en : En} {own : Own} {σ : L2.St} {H : Hp}
def eVar (i : Nat) : EvE := fun en => match en[i]? with
  | some (some d) => .ok d
  | _ => .error .stuck
def eC (d : D) : EvE := fun _ => .ok d
@[simp] theorem eC_ap (d : D) (en : En) : eC d en = .ok d := rfl
def SF.v : SF → VF
  | .s d => .sh d
  | .o d => .bo d
  | _ => .bo false
def SF.rd : SF → Bool
  | .n | .x _ | .dt _ | .ma _ => false
  | _ => true
def visB (sc : Scope) (x : Str) : Bool := match sc.names.lookup x with
  | some .local | some .cell | some .free => true
  | _ => false
def nameB (x : Str) : Bool := !(x == ("__debug__" : Str)) && !(x == ("__classdict__" : Str)) && !(x == ("__name__" : Str))
theorem visB_vis {x : Str} (h : visB sc x = true) (e : X.env.scope = sc) : Vis X.env.scope x := by
  rw [e]
  unfold visB at h
  split at h
  · exact .inl (by assumption)
  · exact .inr (.inl (by assumption))
  · exact .inr (.inr (by assumption))
  · cases h
theorem nameB_d {x : Str} (h : nameB x = true) : (x == ("__debug__" : Str)) = false ∧ (x == ("__classdict__" : Str)) = false ∧ x ≠ "__name__" := by
  unfold nameB at h
  simp only [Bool.and_eq_true, Bool.not_eq_true'] at h
  exact ⟨h.1.1, h.1.2, fun e => by have := h.2; rw [e] at this; simp at this⟩
theorem de_var (g : Gv G N sc X) (i : Nat) {x : Str} {pos : Pos} {fl : SF} (hN : N[i]? = some x := by rfl) (hv : visB sc x = true := by rfl) (hx : nameB x = true := by rfl) (hf : F[i]? = some fl := by rfl) (hn : fl.rd = true := by rfl) :
    PE X (.Name x pos) (TEv G W F F fl.v (eVar i)) := by
  obtain ⟨h1, h2, _⟩ := nameB_d hx
  refine pe_imp (pe_var (i := i) (by rw [g.nN]; exact hN) (visB_vis hv g.sc) h1 h2) ?_
  rintro σ H Q ⟨c, en, own, ok, m⟩
  unfold eVar at m
  split at m
  · rename_i d he
    obtain ⟨x', e1, q⟩ := ok.get he hf (fun e => by subst e; cases hn) (fun a e => by subst e; cases hn)
    refine ⟨x', e1, m x' H own ok (Same.refl H) sub_refl ?_⟩
    cases fl with
    | n => cases hn
    | x _ => cases hn
    | s dp => exact q
    | o dp => exact RO.b q
    | z => exact RO.b q
    | dt _ => cases hn
    | ma _ => cases hn
  · exact m.elim
def SF.mv : SF → SF
  | .o d => .s d
  | f => f
def SF.mvOk : SF → Bool
  | .o _ | .s _ => true
  | _ => false
def SF.mvV : SF → VF
  | .o d => .sh d
  | .s d => .sh d
  | _ => .bo false
def mvL : List SF → Nat → List SF
  | [], _ => []
  | f :: F, 0 => f.mv :: F
  | f :: F, i + 1 => f :: mvL F i
theorem mvL_wk : ∀ (F : List SF) (i : Nat), wkL F (mvL F i) = true
  | [], _ => rfl
  | f :: F, 0 => by
    have h : ∀ F : List SF, wkL F F = true := fun F => by
      induction F with
      | nil => rfl
      | cons f F ih => cases f <;> simp [wkL, SF.wk, ih]
    cases f <;> simp [mvL, wkL, SF.wk, SF.mv, h]
  | f :: F, i + 1 => by
    have := mvL_wk F i
    cases f <;> simp [mvL, wkL, SF.wk, this]
theorem mvL_at : ∀ {F : List SF} {i : Nat} {f : SF}, F[i]? = some f → (mvL F i)[i]? = some f.mv
  | [], _, _, h => by simp at h
  | f :: F, 0, _, h => by simp at h; subst h; rfl
  | f :: F, i + 1, _, h => mvL_at (F := F) (i := i) (by simpa using h)
theorem de_mv (g : Gv G N sc X) (i : Nat) {x : Str} {pos : Pos} {fl : SF} (hN : N[i]? = some x := by rfl) (hv : visB sc x = true := by rfl) (hx : nameB x = true := by rfl) (hf : F[i]? = some fl := by rfl) (hn : fl.mvOk = true := by rfl) :
    PE X (.Name x pos) (TEv G W F (mvL F i) fl.mvV (eVar i)) := by
  obtain ⟨h1, h2, _⟩ := nameB_d hx
  refine pe_imp (pe_var (i := i) (by rw [g.nN]; exact hN) (visB_vis hv g.sc) h1 h2) ?_
  rintro σ H Q ⟨c, en, own, ok, m⟩
  unfold eVar at m
  split at m
  · rename_i d he
    obtain ⟨own', ok', sb, _⟩ := ok.weak (mvL_wk F i)
    obtain ⟨x', e1, q⟩ := ok'.get he (mvL_at hf) (by cases fl <;> simp_all [SF.mv, SF.mvOk]) (by cases fl <;> simp_all [SF.mv, SF.mvOk])
    refine ⟨x', e1, m x' H own' ok' (Same.refl H) (fun a h => .inl (sb a h)) ?_⟩
    cases fl with
    | n => cases hn
    | s dp => exact q
    | o dp => exact q
    | z => cases hn
    | x _ => cases hn
    | dt _ => cases hn
    | ma _ => cases hn
  · exact m.elim
theorem de_int (i : Int) {j pos} : PE X (.Constant (.int i) j pos) (TEv G W F F (.uq true) (eC (.int i))) := by
  refine pe_imp pe_int ?_
  rintro σ H Q ⟨c, en, own, ok, m⟩
  exact m _ H own ok (Same.refl H) sub_refl (RV.mkI i)
theorem de_bl (i : Bool) {j pos} : PE X (.Constant (.bool i) j pos) (TEv G W F F (.uq true) (eC (.bl i))) := by
  refine pe_imp pe_bl ?_
  rintro σ H Q ⟨c, en, own, ok, m⟩
  exact m _ H own ok (Same.refl H) sub_refl (RV.mkB i)
theorem de_str (i : Str) {j pos} : PE X (.Constant (.str i) j pos) (TEv G W F F (.uq true) (eC (.str i))) := by
  refine pe_imp pe_str ?_
  rintro σ H Q ⟨c, en, own, ok, m⟩
  exact m _ H own ok (Same.refl H) sub_refl (RV.mkS i)
theorem de_non {j pos} : PE X (.Constant .none j pos) (TEv G W F F (.uq true) (eC .non)) := by
  refine pe_imp pe_non ?_
  rintro σ H Q ⟨c, en, own, ok, m⟩
  exact m _ H own ok (Same.refl H) sub_refl RV.mkN
def glbB (sc : Scope) (x : Str) : Bool := match sc.names.lookup x with
  | some .globalImplicit => true
  | _ => false
theorem glbB_gl {x : Str} (h : glbB sc x = true) (e : X.env.scope = sc) : Gl X x := by
  show X.env.scope.names.lookup x = _
  rw [e]
  unfold glbB at h
  split at h
  · assumption
  · cases h
structure Glo (G : Gb) (x : Str) (d : D) : Prop where
  ex : ∃ v u, G.mg x = some u ∧ RelV v u ∧ ∀ A H, R G A H d v
theorem de_glo (g : Gv G N sc X) {x : Str} {pos : Pos} {d : D} (h : Glo G x d) (hx : glbB sc x = true := by rfl) (hd : nameB x = true := by rfl) : PE X (.Name x pos) (TEv G W F F (.sh true) (eC d)) := by
  obtain ⟨v, u, e, r, q⟩ := h
  refine pe_imp (pe_glob (glbB_gl hx g.sc) (by rw [g.mg]; exact e) r (nameB_d hd).1) ?_
  rintro σ H Q ⟨c, en, own, ok, m⟩
  exact m _ H own ok (Same.refl H) sub_refl (q _ _)
def ofO {α : Type} : Option α → Rs α
  | some a => .ok a
  | none => .error .stuck
@[simp] theorem ofO_some {α : Type} (a : α) : ofO (some a) = .ok a := rfl
@[simp] theorem ofO_none {α : Type} : ofO (none : Option α) = .error .stuck := rfl
theorem Mt.ofO {α : Type} {o : Option α} {q : α → Prop} (h : Mt G W c σ (ofO o) q) : ∃ a, o = some a ∧ q a := by
  cases o with
  | none => exact h.elim
  | some a => exact ⟨a, rfl, h⟩
def eB2 (op : D → D → Option D) (a b : EvE) : EvE := fun en => bnd (a en) fun x => bnd (b en) fun y => ofO (op x y)
def eU1 (op : D → Option D) (a : EvE) : EvE := fun en => bnd (a en) fun x => ofO (op x)
def NewO (G : Gb) (A : Addr → Prop) (H : Hp) : D → HO → Prop
  | .lst l, o => ∃ xs, o = .lst xs ∧ RL G A H l xs
  | .dct ks l, o => ∃ kvs : List (Key × V), o = .dK kvs ∧ kvs.map (·.1) = ks ∧ RL G A H l (kvs.map (·.2))
  | .tup l, o => ∃ xs, o = .tup xs ∧ RL G A H l xs
  | _, _ => False
structure Kp (G : Gb) (c : Fr) (O : Addr → Prop) (H : Hp) (f : VF) (z : D) (Q : VK) : Prop where
  old : ∀ v, (match f with | .sh dp => R G (Av c O dp) H z v | .uq _ => flat z = true ∧ R G (fun _ => True) H z v | .bo dp => RB G (Av c O dp) H z v) → Q v H
  new : ∀ p o, H p = none → NewO G (Av c O f.dp) H z o → Q (.ref p) (upd H p o)
theorem flat_uq {A : Addr → Prop} {z : D} {v : V} (f : flat z = true) (h : R G (fun _ => True) H z v) : RO G A H z v [] := by
  have h' : R G A H z v := R.flat z f h
  cases z <;> first | exact ⟨rfl, h'⟩ | cases f
theorem Ok.kp {z : D} {Q : VK} (ok : Ok G c F en own σ H) (q : ∀ v H' own', Ok G c F en own' σ H' → Same H H' → Sub (ow own) (ow own') H → RV G c own' H' f z v → Q v H') : Kp G c (ow own) H f z Q := by
  refine ⟨fun v h => q v H own ok (Same.refl H) sub_refl ?_, fun p o hp h => ?_⟩
  · cases f with
    | sh dp => exact h
    | uq dp => exact ⟨[], flat_uq h.1 h.2, fun a h => by cases h⟩
    | bo dp => exact h
  · have g : ∀ (own' : Own), Sub (ow own) (ow own') H → ∀ l xs, RL G (Av c (ow own) f.dp) H l xs → RL G (Av c (ow own') f.dp) (upd H p o) l xs :=
      fun own' k l xs h => RL.up (Up.grow (same_new hp) k (by cases f.dp <;> rfl)) l h
    have np : ¬ ow own p := fun z => ok.trk z hp
    have n0 := ok.free hp
    cases f with
    | sh dp =>
      refine q _ _ own (ok.grow (same_new hp)) (same_new hp) sub_refl ?_
      have ap : Av c (ow own) dp p := ⟨np, fun _ => n0, .inl n0⟩
      cases z <;> first | exact h.elim | skip
      · obtain ⟨xs, rfl, h⟩ := h
        exact ⟨p, xs, rfl, SqT.of upd_same, g own sub_refl _ _ h⟩
      · obtain ⟨xs, rfl, h⟩ := h
        exact ⟨p, xs, rfl, ap, upd_same, g own sub_refl _ _ h⟩
      · obtain ⟨kvs, rfl, hk, h⟩ := h
        exact ⟨p, kvs, rfl, ap, .inl upd_same, hk, g own sub_refl _ _ h⟩
    | uq dp =>
      refine q _ _ (own.res p) (ok.res hp) (same_new hp) (sub_res hp) ?_
      cases z <;> first | exact h.elim | skip
      · obtain ⟨xs, rfl, h⟩ := h
        exact ⟨[], ⟨rfl, p, xs, rfl, SqT.of upd_same, g _ (sub_res hp) _ _ h⟩, fun a h => by cases h⟩
      · obtain ⟨xs, rfl, h⟩ := h
        exact ⟨[p], ⟨p, xs, rfl, rfl, upd_same, g _ (sub_res hp) _ _ h⟩, fun a h => .inr (by simpa using h)⟩
      · obtain ⟨kvs, rfl, hk, h⟩ := h
        exact ⟨[p], ⟨p, kvs, rfl, rfl, upd_same, hk, g _ (sub_res hp) _ _ h⟩, fun a h => .inr (by simpa using h)⟩
    | bo dp =>
      refine q _ _ own (ok.grow (same_new hp)) (same_new hp) sub_refl ?_
      cases z <;> first | exact h.elim | skip
      · obtain ⟨xs, rfl, h⟩ := h
        exact ⟨p, xs, rfl, SqT.of upd_same, g own sub_refl _ _ h⟩
      · obtain ⟨xs, rfl, h⟩ := h
        exact ⟨p, xs, rfl, upd_same, g own sub_refl _ _ h⟩
      · obtain ⟨kvs, rfl, hk, h⟩ := h
        exact ⟨p, kvs, rfl, .inl upd_same, hk, g own sub_refl _ _ h⟩
def OpS (G : Gb) (fo : Bool → Bool → VF) (r : R2) (op : D → D → Option D) : Prop := ∀ (c : Fr) (O : Addr → Prop) (H : Hp) (x y z : D) (v1 v2 : V) (p1 p2 : Bool) (Q : VK),
  RB G (Av c O p1) H x v1 → RB G (Av c O p2) H y v2 → op x y = some z → Kp G c O H (fo p1 p2) z Q → r v1 v2 H Q
theorem OpS.core {fo : Bool → Bool → VF} {r : R2} {op : D → D → Option D} {ta tb : TE} {ea eb : EvE} (h : OpS G fo r op) (ha : ∀ σ H Q, TEv G W F F1 f1 ea σ H Q → ta σ H Q) (hb : ∀ σ H Q, TEv G W F1 F2 f2 eb σ H Q → tb σ H Q) :
    ∀ σ H Q, TEv G W F F2 (fo f1.dp f2.dp) (eB2 op ea eb) σ H Q → tOp r ta tb σ H Q := by
  rintro σ H Q ⟨c, en, own, ok, m⟩
  refine ha _ _ _ ⟨c, en, own, ok, m.bnd.imp fun x _ mx v1 H1 own1 ok1 s1 b1 r1 => ?_⟩
  refine hb _ _ _ ⟨c, en, own1, ok1, mx.bnd.imp fun y _ my v2 H2 own2 ok2 s2 b2 r2 => ?_⟩
  obtain ⟨z, ez, q⟩ := my.ofO
  exact h c _ H2 x y z v1 v2 _ _ Q (RB.grow r1.b s2 b2) r2.b ez (ok2.kp fun v H3 own3 ok3 s3 b3 r3 => q v H3 own3 ok3 ((s1.trans s2).trans s3) (sub_trans (sub_trans b1 s1 b2) (s1.trans s2) b3) r3)
theorem de_op {o : Operator} {a b : Expr} {pos : Pos} {fo : Bool → Bool → VF} {r : R2} {op : D → D → Option D} {ea eb : EvE} (ho : OpR X (binaryOp o) r) (h : OpS G fo r op) (ha : PE X a (TEv G W F F1 f1 ea)) (hb : PE X b (TEv G W F1 F2 f2 eb)) :
    PE X (.BinOp a o b pos) (TEv G W F F2 (fo f1.dp f2.dp) (eB2 op ea eb)) := pe_imp (pe_op ho ha hb) (h.core (fun _ _ _ z => z) fun _ _ _ z => z)
theorem de_cmp {o : CmpOp} {a b : Expr} {pos : Pos} {fo : Bool → Bool → VF} {r : R2} {op : D → D → Option D} {ea eb : EvE} (ho : OpR X (compareOp o) r) (h : OpS G fo r op) (ha : PE X a (TEv G W F F1 f1 ea)) (hb : PE X b (TEv G W F1 F2 f2 eb)) (hm : behindInMarks o b = false := by rfl) :
    PE X (.Compare a [o] [b] pos) (TEv G W F F2 (fo f1.dp f2.dp) (eB2 op ea eb)) := pe_imp (pe_cmpR ho ha hb hm) (h.core (fun _ _ _ z => z) fun _ _ _ z => z)
def asB : D → Option Bool
  | .bl b => some b
  | _ => none
def tV (ev : EvE) : En → Rs Bool := fun en => bnd (ev en) fun d => ofO (asB d)
theorem tV_core {ev : EvE} {t : TE} (h : ∀ σ H Q, TEv G W F F1 f ev σ H Q → t σ H Q) : ∀ σ H Q, TTv G W F F1 (tV ev) σ H Q → tTest t σ H Q := by
  rintro σ H Q ⟨c, en, own, ok, m⟩
  refine h _ _ _ ⟨c, en, own, ok, m.bnd.imp fun d _ md v H1 own1 ok1 s1 b1 r1 => ?_⟩
  obtain ⟨b, eb, q⟩ := md.ofO
  cases d <;> first | (cases eb; exact ⟨_, r1.bl, q H1 own1 ok1 s1 b1⟩) | cases eb
theorem dt_cmp {o : CmpOp} {a b : Expr} {pos : Pos} {fo : Bool → Bool → VF} {r : R2} {op : D → D → Option D} {ea eb : EvE} (ho : OpR X (compareOp o) r) (h : OpS G fo r op) (ha : PE X a (TEv G W F F1 f1 ea)) (hb : PE X b (TEv G W F1 F2 f2 eb)) (hm : behindInMarks o b = false := by rfl) :
    PT X (.Compare a [o] [b] pos) (TTv G W F F2 (tV (eB2 op ea eb))) := pt_imp (pt_cmpR ho ha hb hm) (tV_core (h.core (fun _ _ _ z => z) fun _ _ _ z => z))
theorem dt_val {e : Expr} {ev : EvE} (he : PE X e (TEv G W F F1 f ev)) (hs : ∀ whole, isTrue e X.env whole = (do let v ← whole; standAt e.pos; holding [v] (truthy v)) := by intro _; rfl) : PT X e (TTv G W F F1 (tV ev)) :=
  pt_imp (pt_val he hs) (tV_core fun _ _ _ z => z)
def tNt (t : En → Rs Bool) : En → Rs Bool := fun en => bnd (t en) fun b => .ok (!b)
def tAn (t u : En → Rs Bool) : En → Rs Bool := fun en => bnd (t en) fun b => if b = true then u en else .ok false
def tO (t u : En → Rs Bool) : En → Rs Bool := fun en => bnd (t en) fun b => if b = true then .ok true else u en
theorem dt_not {a : Expr} {pos : Pos} {t : En → Rs Bool} (ha : PT X a (TTv G W F F1 t)) : PT X (.UnaryOp .Not a pos) (TTv G W F F1 (tNt t)) := by
  refine pt_imp (pt_not ha) ?_
  rintro σ H Q ⟨c, en, own, ok, m⟩
  exact ⟨c, en, own, ok, m.bnd.imp fun b _ mb H1 own1 ok1 s1 b1 => mb H1 own1 ok1 s1 b1⟩
theorem dw_and1 {a : Expr} {pos : Pos} {t : En → Rs Bool} (ha : PT X a (TTv G W F F1 t)) : PW X (.BoolOp .And [a] pos) (TTv G W F F1 t) := pw_and1 ha
theorem dw_or1 {a : Expr} {pos : Pos} {t : En → Rs Bool} (ha : PT X a (TTv G W F F1 t)) : PW X (.BoolOp .Or [a] pos) (TTv G W F F1 t) := pw_or1 ha
theorem pw_imp {X : Cx} {e : Expr} {t t' : TT} (h : PW X e t) (m : ∀ σ H Q, t' σ H Q → t σ H Q) : PW X e t' := ⟨fun wh pins s σ H Q I q => h.run wh pins s σ H Q I (m σ H Q q)⟩
theorem dw_and {a b : Expr} {rest : List Expr} {pos : Pos} {t u : En → Rs Bool} (ha : PT X a (TTv G W F F t)) (hb : PW X (.BoolOp .And (b :: rest) pos) (TTv G W F F u)) : PW X (.BoolOp .And (a :: b :: rest) pos) (TTv G W F F (tAn t u)) := by
  refine pw_imp (pw_and ha hb) ?_
  rintro σ H Q ⟨c, en, own, ok, m⟩
  refine ⟨c, en, own, ok, m.bnd.imp fun b _ mb H1 own1 ok1 s1 b1 => ?_⟩
  cases b with
  | true =>
    refine iteT ⟨c, en, own1, ok1, ?_⟩
    rw [if_pos rfl] at mb
    exact mb.imp fun x _ q H2 own2 ok2 s2 b2 => q H2 own2 ok2 (s1.trans s2) (sub_trans b1 s1 b2)
  | false =>
    rw [if_neg (by decide)] at mb
    exact iteF (mb H1 own1 ok1 s1 b1)
theorem dw_or {a b : Expr} {rest : List Expr} {pos : Pos} {t u : En → Rs Bool} (ha : PT X a (TTv G W F F t)) (hb : PW X (.BoolOp .Or (b :: rest) pos) (TTv G W F F u)) : PW X (.BoolOp .Or (a :: b :: rest) pos) (TTv G W F F (tO t u)) := by
  refine pw_imp (pw_or ha hb) ?_
  rintro σ H Q ⟨c, en, own, ok, m⟩
  refine ⟨c, en, own, ok, m.bnd.imp fun b _ mb H1 own1 ok1 s1 b1 => ?_⟩
  cases b with
  | true =>
    rw [if_pos rfl] at mb
    exact iteT (mb H1 own1 ok1 s1 b1)
  | false =>
    refine iteF ⟨c, en, own1, ok1, ?_⟩
    rw [if_neg (by decide)] at mb
    exact mb.imp fun x _ q H2 own2 ok2 s2 b2 => q H2 own2 ok2 (s1.trans s2) (sub_trans b1 s1 b2)
theorem dt_w {e : Expr} {t : En → Rs Bool} (h : PW X e (TTv G W F F1 t)) : PT X e (TTv G W F F1 t) := h.pt
def eAn (a b : EvE) : EvE := fun en => bnd (a en) fun d => bnd (ofO (asB d)) fun c => if c = true then b en else .ok (.bl false)
def eOr (a b : EvE) : EvE := fun en => bnd (a en) fun d => bnd (ofO (asB d)) fun c => if c = true then .ok (.bl true) else b en
def eNt (a : EvE) : EvE := fun en => bnd (a en) fun d => bnd (ofO (asB d)) fun c => .ok (.bl (!c))
theorem de_one {op} {a : Expr} {pos : Pos} {ev : EvE} (h : PE X a (TEv G W F F1 f ev)) : PE X (.BoolOp op [a] pos) (TEv G W F F1 f ev) := pe_one h
theorem de_and {a b : Expr} {rest : List Expr} {pos : Pos} {ea eb : EvE} (ha : PE X a (TEv G W F F f1 ea)) (hb : PE X (.BoolOp .And (b :: rest) pos) (TEv G W F F f2 eb)) : PE X (.BoolOp .And (a :: b :: rest) pos) (TEv G W F F f2 (eAn ea eb)) := by
  refine pe_imp (pe_and ha hb) ?_
  rintro σ H Q ⟨c, en, own, ok, m⟩
  refine ⟨c, en, own, ok, m.bnd.imp fun x _ mx v1 H1 own1 ok1 s1 b1 r1 => ?_⟩
  obtain ⟨b, eb', q⟩ := mx.bnd.ofO
  cases x <;> first | cases eb' | skip
  refine ⟨_, r1.bl, ?_⟩
  cases b with
  | true =>
    rw [if_pos rfl] at q
    exact iteT ⟨c, en, own1, ok1, q.imp fun y _ q v2 H2 own2 ok2 s2 b2 r2 => q v2 H2 own2 ok2 (s1.trans s2) (sub_trans b1 s1 b2) r2⟩
  | false =>
    rw [if_neg (by decide)] at q
    exact iteF (q _ H1 own1 ok1 s1 b1 (RV.mkB false))
def aNil : En → Rs (List D) := fun _ => .ok []
def aCons (a : EvE) (r : En → Rs (List D)) : En → Rs (List D) := fun en => bnd (a en) fun d => bnd (r en) fun ds => .ok (d :: ds)
theorem da_nil : PA X [] (TAv G W F F [] aNil) := by
  refine pa_imp pa_nil ?_
  rintro σ H Q ⟨c, en, own, ok, m⟩
  exact m [] H own ok (Same.refl H) sub_refl ⟨rfl, rfl⟩
theorem RV.arg {d : D} {v : V} (ok : Ok G c F en own σ H) (h : RV G c own H f d v) : ∃ own', Ok G c F en own' σ H ∧ (∀ a, ow own' a → ow own a) ∧ RA G c (ow own') H f d v := by
  cases f with
  | sh dp => exact ⟨own, ok, fun _ h => h, h⟩
  | uq dp => exact RV.share ok h rfl
  | bo dp => exact ⟨own, ok, fun _ h => h, h⟩
theorem da_cons {e : Expr} {es : List Expr} {fs : List VF} {ea : EvE} {er : En → Rs (List D)} (ha : PE X e (TEv G W F F1 f1 ea)) (hr : PA X es (TAv G W F1 F2 fs er)) (hs : starEach (e :: es) X.env = (false, eval e X.env) :: starEach es X.env := by rfl) :
    PA X (e :: es) (TAv G W F F2 (f1 :: fs) (aCons ea er)) := by
  refine pa_imp (pa_cons ha hr hs) ?_
  rintro σ H Q ⟨c, en, own, ok, m⟩
  refine ⟨c, en, own, ok, m.bnd.imp fun x _ mx v1 H1 own1 ok1 s1 b1 r1 => ?_⟩
  obtain ⟨own1', ok1', k1, a1⟩ := RV.arg ok1 r1
  refine ⟨c, en, own1', ok1', mx.bnd.imp fun ds _ q vs H2 own2 ok2 s2 b2 r2 => ?_⟩
  have b1' : Sub (ow own) (ow own1') H := fun a h => b1 a (k1 a h)
  exact q (v1 :: vs) H2 own2 ok2 (s1.trans s2) (sub_trans b1' s1 b2) ⟨x, ds, v1, vs, rfl, rfl, a1.up s2 b2, r2⟩
end
end Pi
namespace Pi
open PySem PySem.Spec PyProof.Rows L2
theorem opr_or {X : Cx} {f : Value → Value → Sem Value} {r1 r2 : R2} (h1 : OpR X f r1) (h2 : OpR X f r2) : OpR X f (fun x y H Q => r1 x y H Q ∨ r2 x y H Q) := by
  intro pins s σ H x y v u Q I rx ry h
  rcases h with h | h
  · exact h1 pins s σ H x y v u Q I rx ry h
  · exact h2 pins s σ H x y v u Q I rx ry h
section
variable {G : Gb} {c : Fr} {O : Addr → Prop} {H : Hp}
theorem RL.an {A A' : Addr → Prop} {l : List D} {xs : List V} (h : RL G A H l xs) (m : ∀ a, A a → A' a) : RL G A' H l xs := RL.up (Up.same (Same.refl H) m) l h
theorem R.an {A A' : Addr → Prop} {d : D} {v : V} (h : R G A H d v) (m : ∀ a, A a → A' a) : R G A' H d v := R.up (Up.same (Same.refl H) m) d h
end
section
variable {G : Gb} {c : Fr} {O : Addr → Prop} {H : Hp} {f : VF} {Q : VK}
theorem Kp.fl {z : D} {v : V} (k : Kp G c O H f z Q) (h : R G (fun _ => True) H z v) (hf : flat z = true) : Q v H := k.old v (by
  cases f with
  | sh dp => exact R.flat z hf h
  | uq dp => exact ⟨hf, h⟩
  | bo dp => exact (R.flat (A' := Av c O dp) z hf h).b)
theorem Kp.int {i : Int} (k : Kp G c O H f (.int i) Q) : Q (.int i) H := k.fl rfl rfl
theorem Kp.bl {i : Bool} (k : Kp G c O H f (.bl i) Q) : Q (.bl i) H := k.fl rfl rfl
theorem Kp.str {i : Str} (k : Kp G c O H f (.str i) Q) : Q (.str i) H := k.fl rfl rfl
theorem Kp.non (k : Kp G c O H f .non Q) : Q .non H := k.fl rfl rfl
end
def oAdd : D → D → Option D
  | .int i, .int j => some (.int (i + j))
  | .str x, .str y => if x.length + y.length ≤ sizeLine then some (.str (x ++ y)) else none
  | .lst l, .lst m => if l.length + m.length ≤ sizeLine then some (.lst (l ++ m)) else none
  | _, _ => none
def rAdd3 : R2 := fun x y H Q => (rI0 (fun i j => V.int (i + j)) x y H Q) ∨ (∃ i j, x = .str i ∧ y = .str j ∧ i.length + j.length ≤ sizeLine ∧ Q (.str (i ++ j)) H) ∨ rCat x y H Q
theorem opr_add {X : Cx} : OpR X (binaryOp .Add) rAdd3 := opr_or op_add (opr_or op_add_str op_cat)
abbrev foA : Bool → Bool → VF := fun p q => .uq (p && q)
abbrev foT : Bool → Bool → VF := fun _ _ => .uq true
theorem ops_add {G : Gb} : OpS G foA rAdd3 oAdd := by
  intro c O H x y z v1 v2 p1 p2 Q h1 h2 e q
  cases x with
  | int i =>
    cases y <;> first | (simp [oAdd] at e; done) | skip
    cases e
    exact .inl ⟨i, _, h1, h2, q.int⟩
  | str i =>
    cases y <;> first | (simp [oAdd] at e; done) | skip
    rename_i j
    simp only [oAdd] at e
    split at e
    · cases e
      exact .inr (.inl ⟨i, j, h1, h2, by assumption, q.str⟩)
    · cases e
  | lst l =>
    cases y <;> first | (simp [oAdd] at e; done) | skip
    rename_i m
    simp only [oAdd] at e
    split at e
    · rename_i hl
      cases e
      obtain ⟨a, xs, rfl, e1, r1⟩ := h1
      obtain ⟨b, ys, rfl, e2, r2⟩ := h2
      refine .inr (.inr ⟨a, b, xs, ys, rfl, rfl, e1, e2, by rw [r1.len, r2.len]; exact hl, fun p hp => q.new p _ hp ⟨_, rfl, RL.app ?_ ?_⟩⟩)
      · exact r1.an fun a h => h.dpand p2
      · exact r2.an fun a h => h.dpand' p1
    · cases e
  | _ => simp [oAdd] at e
def oI (g : Int → Int → Option Int) : D → D → Option D
  | .int i, .int j => (g i j).map .int
  | _, _ => none
theorem ops_I {G : Gb} {C : Int → Int → Prop} {g : Int → Int → Option Int} {g' : Int → Int → Int} (h : ∀ i j z, g i j = some z → C i j ∧ z = g' i j) : OpS G foT (rI C fun i j => .int (g' i j)) (oI g) := by
  intro c O H x y z v1 v2 p1 p2 Q h1 h2 e q
  cases x <;> first | (simp [oI] at e; done) | skip
  cases y <;> first | (simp [oI] at e; done) | skip
  rename_i i j
  simp only [oI, Option.map_eq_some_iff] at e
  obtain ⟨z', e1, rfl⟩ := e
  obtain ⟨h3, rfl⟩ := h i j z' e1
  exact ⟨i, j, h1, h2, h3, q.int⟩
theorem opr_sub {X : Cx} : OpR X (binaryOp .Sub) (rI (fun _ _ => True) fun i j => .int (i - j)) := opI fun _ _ _ _ _ _ _ _ q => sub_int q
def oSub : D → D → Option D := oI fun i j => some (i - j)
theorem ops_sub {G : Gb} : OpS G foT (rI (fun _ _ => True) fun i j => .int (i - j)) oSub := ops_I fun i j z e => ⟨trivial, (Option.some.inj e).symm⟩
def mulOk (i j : Int) : Bool := decide (i.natAbs < 18446744073709551616) || decide (j.natAbs < 18446744073709551616) || decide (i.natAbs.log2 + j.natAbs.log2 < 100000000)
theorem mulOk_ok {i j : Int} (h : mulOk i j = true) : IntMulOk i j := by
  unfold mulOk at h
  simp only [Bool.or_eq_true, decide_eq_true_eq] at h
  rcases h with (h | h) | h
  · exact .of_left (intBits_le_64 (by omega) (by omega))
  · exact .of_right (intBits_le_64 (by omega) (by omega))
  · have b : ∀ x : Int, Builtin.Int.intBits x ≤ x.natAbs.log2 + 1 := fun x => by
      unfold Builtin.Int.intBits
      split <;> omega
    have h1 := b i
    have h2 := b j
    have e : bitsLine = 134217728 := by decide
    unfold IntMulOk
    intro z
    rw [Bool.and_eq_true] at z
    have z2 := z.2
    unfold Builtin.Int.intTooBig at z2
    have z3 := of_decide_eq_true z2
    rw [e] at z3
    omega
def oMul : D → D → Option D
  | .int i, .int j => if mulOk i j = true then some (.int (i * j)) else none
  | .lst l, .int j => if j.toNat < 1048576 ∧ l.length * j.toNat ≤ sizeLine ∧ -1048576 ≤ j then some (.lst (List.replicate j.toNat l).flatten) else none
  | _, _ => none
theorem opr_mul {X : Cx} : OpR X (binaryOp .Mult) (fun x y H Q => rI IntMulOk (fun i j => .int (i * j)) x y H Q ∨ rRep x y H Q) := opr_or (opI fun _ _ _ _ _ _ _ hc q => mul_int q hc) op_rep
theorem RL.rep {G : Gb} {A : Addr → Prop} {H : Hp} {l : List D} {xs : List V} (h : RL G A H l xs) : ∀ n : Nat, RL G A H (List.replicate n l).flatten (List.replicate n xs).flatten
  | 0 => rfl
  | n + 1 => by
    rw [List.replicate_succ, List.replicate_succ, List.flatten_cons, List.flatten_cons]
    exact RL.app h (RL.rep h n)
theorem ops_mul {G : Gb} : OpS G foA (fun x y H Q => rI IntMulOk (fun i j => .int (i * j)) x y H Q ∨ rRep x y H Q) oMul := by
  intro c O H x y z v1 v2 p1 p2 Q h1 h2 e q
  cases x with
  | int i =>
    cases y <;> first | (simp [oMul] at e; done) | skip
    rename_i j
    simp only [oMul] at e
    split at e
    · rename_i hm
      cases e
      exact .inl ⟨i, j, h1, h2, mulOk_ok hm, q.int⟩
    · cases e
  | lst l =>
    cases y <;> first | (simp [oMul] at e; done) | skip
    rename_i j
    simp only [oMul] at e
    split at e
    · rename_i hl
      cases e
      obtain ⟨a, xs, rfl, e1, r1⟩ := h1
      refine .inr ⟨a, j, xs, rfl, h2, e1, by omega, by omega, by rw [r1.len]; exact hl.2.1, fun p hp => q.new p _ hp ⟨_, rfl, RL.rep ?_ _⟩⟩
      exact r1.an fun a h => h.dpand p2
    · cases e
  | _ => simp [oMul] at e
def oMod : D → D → Option D := oI fun i j => if j = 0 then none else some (i.fmod j)
theorem ops_mod {G : Gb} : OpS G foT (rI (fun _ j => j ≠ 0) fun i j => .int (i.fmod j)) oMod := ops_I fun i j z e => by
  split at e
  · cases e
  · rename_i h; exact ⟨h, (Option.some.inj e).symm⟩
def divOk (i j : Int) : Bool := decide (j ≠ 0) && (decide (j.natAbs.log2 < 9000) || !Builtin.divisionGoesByPylong i j)
theorem opr_div {X : Cx} : OpR X (binaryOp .FloorDiv) (rI (fun i j => divOk i j = true) fun i j => .int (i.fdiv j)) := opI fun i j _ _ _ _ _ hc q => by
  have h : j ≠ 0 ∧ (j.natAbs.log2 < 9000 ∨ Builtin.divisionGoesByPylong i j = false) := by simpa [divOk] using hc
  exact floordiv_int h.1 q (.inl (h.2.elim PyProof.noPylong_of_log2 id))
def oDiv : D → D → Option D := oI fun i j => if divOk i j = true then some (i.fdiv j) else none
theorem ops_div {G : Gb} : OpS G foT (rI (fun i j => divOk i j = true) fun i j => .int (i.fdiv j)) oDiv := ops_I fun i j z e => by
  split at e
  · rename_i h; exact ⟨h, (Option.some.inj e).symm⟩
  · cases e
def oPow : D → D → Option D := oI fun i j => if 0 ≤ j ∧ j ≤ 1000000 ∧ i.natAbs < 18446744073709551616 then some (i ^ j.toNat) else none
theorem ops_pow {G : Gb} : OpS G foT (rI CPow fun i j => .int (i ^ j.toNat)) oPow := ops_I fun i j z e => by
  split at e
  · rename_i h; exact ⟨⟨h.1, h.2.1, h.2.2⟩, (Option.some.inj e).symm⟩
  · cases e
end Pi
namespace Pi
open PySem PySem.Spec PyProof.Rows L2
mutual
def toP : D → PyData
  | .non => .none
  | .bl b => .bool b
  | .int i => .int i
  | .str x => .str x
  | .tup l => .tuple (toPL l)
  | .lst l => .list (toPL l)
  | _ => .none
def toPL : List D → List PyData
  | [] => []
  | d :: l => toP d :: toPL l
end
mutual
/-- plain, and no deeper than n -/
def pl : D → Nat → Bool
  | .non, _ => true
  | .bl _, _ => true
  | .int _, _ => true
  | .str _, _ => true
  | .tup l, n => match n with
    | 0 => false
    | n + 1 => plL l n
  | .lst l, n => match n with
    | 0 => false
    | n + 1 => plL l n
  | _, _ => false
def plL : List D → Nat → Bool
  | [], _ => true
  | d :: l, n => pl d n && plL l n
end
theorem plL_all : ∀ (l : List D) (n : Nat), plL l n = l.all fun d => pl d n
  | [], _ => rfl
  | d :: l, n => by rw [plL, List.all_cons, plL_all l n]
mutual
theorem pl_plain : ∀ (d : D) (n : Nat), pl d n = true → (toP d).plain = true ∧ (toP d).depth ≤ n
  | .non, n, _ => ⟨rfl, by simp [toP, PyData.depth]⟩
  | .bl _, n, _ => ⟨rfl, by simp [toP, PyData.depth]⟩
  | .int _, n, _ => ⟨rfl, by simp [toP, PyData.depth]⟩
  | .str _, n, _ => ⟨rfl, by simp [toP, PyData.depth]⟩
  | .tup l, n, h => by
    cases n with
    | zero => simp [pl] at h
    | succ n =>
      have q := plL_plain l n (by simpa [pl] using h)
      exact ⟨by simpa [toP, PyData.plain] using q.1, by simp [toP, PyData.depth]; exact q.2⟩
  | .lst l, n, h => by
    cases n with
    | zero => simp [pl] at h
    | succ n =>
      have q := plL_plain l n (by simpa [pl] using h)
      exact ⟨by simpa [toP, PyData.plain] using q.1, by simp [toP, PyData.depth]; exact q.2⟩
theorem plL_plain : ∀ (l : List D) (n : Nat), plL l n = true → PyData.plainAll (toPL l) = true ∧ PyData.depthAll (toPL l) ≤ n
  | [], n, _ => ⟨rfl, by simp [toPL, PyData.depthAll]⟩
  | d :: l, n, h => by
    have h' : pl d n = true ∧ plL l n = true := by simpa [plL] using h
    have q1 := pl_plain d n h'.1
    have q2 := plL_plain l n h'.2
    refine ⟨by simp [toPL, PyData.plainAll, q1.1, q2.1], ?_⟩
    simp only [toPL, PyData.depthAll]
    omega
end
section
variable {G : Gb} {A : Addr → Prop} {H : Hp}
theorem pl_tup {l : List D} {n : Nat} (h : pl (.tup l) n = true) : ∃ m, plL l m = true := by
  cases n with
  | zero => simp [pl] at h
  | succ n => exact ⟨n, by simpa [pl] using h⟩
theorem pl_lst {l : List D} {n : Nat} (h : pl (.lst l) n = true) : ∃ m, plL l m = true := by
  cases n with
  | zero => simp [pl] at h
  | succ n => exact ⟨n, by simpa [pl] using h⟩
mutual
theorem R.dp : ∀ (d : D), (∃ n, pl d n = true) → ∀ v : V, R G A H d v → Dp G.K H v (toP d)
  | .non, _, _, h => by rw [show _ = V.non from h]; exact .non
  | .bl b, _, _, h => by rw [show _ = V.bl b from h]; exact .bl b
  | .int i, _, _, h => by rw [show _ = V.int i from h]; exact .int i
  | .str x, _, _, h => by rw [show _ = V.str x from h]; exact .str x
  | .tup l, hp, v, h => by
    obtain ⟨a, xs, e, h1, h2⟩ := h
    rw [e]
    exact .tup h1 (RL.dp l (hp.elim fun _ h => pl_tup h) xs h2)
  | .lst l, hp, v, h => by
    obtain ⟨a, xs, e, _, h1, h2⟩ := h
    rw [e]
    exact .lst (SqL.of h1) (RL.dp l (hp.elim fun _ h => pl_lst h) xs h2)
  | .dct _ _, hp, _, _ => by obtain ⟨n, h⟩ := hp; simp [pl] at h
  | .obj _ _, hp, _, _ => by obtain ⟨n, h⟩ := hp; simp [pl] at h
  | .exc _, hp, _, _ => by obtain ⟨n, h⟩ := hp; simp [pl] at h
  | .scr _, hp, _, _ => by obtain ⟨n, h⟩ := hp; simp [pl] at h
termination_by structural d => d
theorem RL.dp : ∀ (l : List D), (∃ n, plL l n = true) → ∀ xs : List V, RL G A H l xs → DpAll G.K H xs (toPL l)
  | [], _, _, h => by rw [show _ = [] from h]; exact .nil
  | d :: l, hp, xs, h => by
    obtain ⟨x, r, e, h1, h2⟩ := h
    rw [e]
    exact .cons (R.dp d (hp.elim fun n h => ⟨n, by simp only [plL, Bool.and_eq_true] at h; exact h.1⟩) x h1) (RL.dp l (hp.elim fun n h => ⟨n, by simp only [plL, Bool.and_eq_true] at h; exact h.2⟩) r h2)
termination_by structural l => l
end
theorem RB.dp {d : D} {v : V} (n : Nat) (h : RB G A H d v) (hp : pl d n = true) : Dp G.K H v (toP d) := R.dp d ⟨n, hp⟩ v h.r
end
def oEq : D → D → Option D := fun x y => if pl x 60 = true ∧ pl y 60 = true then some (.bl (PyData.eqv (toP x) (toP y))) else none
def oNe : D → D → Option D := fun x y => if pl x 60 = true ∧ pl y 60 = true then some (.bl (!PyData.eqv (toP x) (toP y))) else none
def rEqP (K : PySem.W.Frag) (neg : Bool) : R2 := fun x y H Q => ∃ d e, Dp K H x d ∧ Dp K H y e ∧ d.plain = true ∧ e.plain = true ∧ d.depth ≤ 60 ∧ Q (.bl (if neg then !PyData.eqv d e else PyData.eqv d e)) H
theorem opr_eq {X : Cx} (hu : X.A.units + 64 < cLine) : OpR X (compareOp .Eq) (rEqP X.K false) := by
  intro pins s σ H x y v u Q I rx ry h
  obtain ⟨d, e, hd, he, sd, se, dd, q⟩ := h
  obtain ⟨as, r1⟩ := Dp.reads I d x v hd rx
  obtain ⟨bs, r2⟩ := Dp.reads I e y u he ry
  exact SeqAt.eq_plain r1 r2 sd se (by have := Nat.min_le_left d.depth e.depth; omega) ⟨.bl _, H, I, rfl, q⟩
theorem opr_ne {X : Cx} (hu : X.A.units + 64 < cLine) : OpR X (compareOp .NotEq) (rEqP X.K true) := by
  intro pins s σ H x y v u Q I rx ry h
  obtain ⟨d, e, hd, he, sd, se, dd, q⟩ := h
  obtain ⟨as, r1⟩ := Dp.reads I d x v hd rx
  obtain ⟨bs, r2⟩ := Dp.reads I e y u he ry
  exact SeqAt.ne_plain r1 r2 sd se (by have := Nat.min_le_left d.depth e.depth; omega) ⟨.bl _, H, I, rfl, q⟩
theorem ops_eq {G : Gb} : OpS G foT (rEqP G.K false) oEq := by
  intro c O H x y z v1 v2 p1 p2 Q h1 h2 e q
  unfold oEq at e
  split at e
  · rename_i hp
    cases e
    have a := pl_plain x 60 hp.1
    have b := pl_plain y 60 hp.2
    exact ⟨_, _, h1.dp 60 hp.1, h2.dp 60 hp.2, a.1, b.1, a.2, q.bl⟩
  · cases e
theorem ops_ne {G : Gb} : OpS G foT (rEqP G.K true) oNe := by
  intro c O H x y z v1 v2 p1 p2 Q h1 h2 e q
  unfold oNe at e
  split at e
  · rename_i hp
    cases e
    have a := pl_plain x 60 hp.1
    have b := pl_plain y 60 hp.2
    exact ⟨_, _, h1.dp 60 hp.1, h2.dp 60 hp.2, a.1, b.1, a.2, q.bl⟩
  · cases e
def oCI (p : Int → Int → Bool) : D → D → Option D
  | .int i, .int j => some (.bl (p i j))
  | _, _ => none
theorem ops_CI {G : Gb} (p : Int → Int → Bool) : OpS G foT (rI0 fun i j => .bl (p i j)) (oCI p) := by
  intro c O H x y z v1 v2 p1 p2 Q h1 h2 e q
  cases x <;> first | (simp [oCI] at e; done) | skip
  cases y <;> first | (simp [oCI] at e; done) | skip
  cases e
  exact ⟨_, _, h1, h2, q.bl⟩
abbrev oLt := oCI fun i j => decide (i < j)
abbrev oGt := oCI fun i j => decide (j < i)
abbrev oGe := oCI fun i j => decide (j ≤ i)
def rIsA (neg : Bool) : R2 := fun x y H Q => (y = .non ∧ Q (.bl (xor neg (decide (x = .non)))) H) ∨ ∃ a b, x = .bl a ∧ y = .bl b ∧ Q (.bl (xor neg (decide (a = b)))) H
end Pi
namespace Pi
open PySem PySem.Spec PyProof.Rows L2
theorem opr_is {X : Cx} : OpR X (compareOp .Is) (rIsA false) := by
  refine opr_or (r1 := fun x y H Q => y = .non ∧ Q (.bl (xor false (decide (x = .non)))) H) (r2 := fun x y H Q => ∃ a b, x = .bl a ∧ y = .bl b ∧ Q (.bl (xor false (decide (a = b)))) H) ?_ ?_
  · intro pins s σ H x y v u Q I rx ry h
    exact op_isN pins s σ H x y v u Q I rx ry (by simpa using h)
  · intro pins s σ H x y v u Q I rx ry h
    exact op_is_bl pins s σ H x y v u Q I rx ry (by simpa using h)
theorem opr_isnot {X : Cx} : OpR X (compareOp .IsNot) (rIsA true) := by
  refine opr_or (r1 := fun x y H Q => y = .non ∧ Q (.bl (xor true (decide (x = .non)))) H) (r2 := fun x y H Q => ∃ a b, x = .bl a ∧ y = .bl b ∧ Q (.bl (xor true (decide (a = b)))) H) ?_ ?_
  · intro pins s σ H x y v u Q I rx ry h
    exact op_notN pins s σ H x y v u Q I rx ry (by simpa using h)
  · intro pins s σ H x y v u Q I rx ry h
    exact op_isnot_bl pins s σ H x y v u Q I rx ry (by simpa using h)
def isNonB : D → Bool
  | .non => true
  | _ => false
theorem RB.nn {G : Gb} {A : Addr → Prop} {H : Hp} {d : D} {v : V} (h : RB G A H d v) : decide (v = .non) = isNonB d := by
  cases d with
  | non => rw [show v = .non from h]; rfl
  | bl b => rw [show v = .bl b from h]; rfl
  | int b => rw [show v = .int b from h]; rfl
  | str b => rw [show v = .str b from h]; rfl
  | tup l => obtain ⟨a, xs, e, _⟩ := h; rw [e]; rfl
  | lst l => obtain ⟨a, xs, e, _⟩ := h; rw [e]; rfl
  | dct ks l => obtain ⟨a, xs, e, _⟩ := h; rw [e]; rfl
  | obj k l => obtain ⟨a, dx, fs, e, _⟩ := h; rw [e]; rfl
  | exc k => exact h.elim
  | scr l => obtain ⟨a, e, _⟩ := h; rw [e]; rfl
def oIs (neg : Bool) : D → D → Option D
  | x, .non => some (.bl (xor neg (isNonB x)))
  | .bl a, .bl b => some (.bl (xor neg (decide (a = b))))
  | _, _ => none
theorem ops_is {G : Gb} (neg : Bool) : OpS G foT (rIsA neg) (oIs neg) := by
  intro c O H x y z v1 v2 p1 p2 Q h1 h2 e q
  cases y with
  | non =>
    have hn := h1.nn
    have e2 : oIs neg x .non = some (.bl (xor neg (isNonB x))) := by cases x <;> rfl
    rw [e2] at e
    cases e
    refine .inl ⟨h2, ?_⟩
    rw [hn]
    exact q.bl
  | bl b =>
    cases x <;> first | (simp [oIs] at e; done) | skip
    cases e
    exact .inr ⟨_, b, h1, h2, q.bl⟩
  | _ => cases x <;> simp [oIs] at e
def oIx : D → D → Option D
  | .lst l, .int i => atI l i
  | .tup l, .int i => atI l i
  | .scr l, .int i => (atI l i).map .int
  | .str s, .int i => if s.length ≤ sizeLine then (atI s.cps.toList i).map fun c => .str ⟨#[c]⟩ else none
  | _, _ => none
theorem RL.atI {G : Gb} {A : Addr → Prop} {H : Hp} {l : List D} {xs : List V} {i : Int} {d : D} (h : RL G A H l xs) (e : atI l i = some d) : ∃ v, L2.atI xs i = some v ∧ R G A H d v := by
  unfold L2.atI at e ⊢
  rw [h.len]
  cases q : ixN l.length i with
  | none => rw [q] at e; cases e
  | some j =>
    rw [q] at e
    obtain ⟨v, h1, h2⟩ := h.get (i := j) e
    exact ⟨v, h1, h2⟩
theorem ops_ix {G : Gb} : OpS G (fun p _ => .sh p) (rIx G.K) oIx := by
  intro c O H x y z v1 v2 p1 p2 Q h1 h2 e q
  cases y <;> first | (cases x <;> simp [oIx] at e; done) | skip
  rename_i i
  cases x <;> first | (simp [oIx] at e; done) | skip
  · rename_i s
    simp only [oIx] at e
    split at e
    · rename_i hl
      obtain ⟨c', e1, e2⟩ := Option.map_eq_some_iff.mp e
      subst e2
      exact .inr (.inr ⟨s, i, c', h1, h2, hl, e1, q.str⟩)
    · cases e
  · rename_i l
    obtain ⟨a, xs, rfl, e1, r1⟩ := h1
    obtain ⟨v, e2, r2⟩ := r1.atI e
    exact .inr (.inl ⟨a, xs, i, v, rfl, h2, e1, e2, q.old v r2⟩)
  · rename_i l
    obtain ⟨a, xs, rfl, e1, r1⟩ := h1
    obtain ⟨v, e2, r2⟩ := r1.atI e
    exact .inl ⟨a, xs, i, v, rfl, h2, SqL.of e1, e2, q.old v r2⟩
  · rename_i l
    obtain ⟨a, rfl, e1⟩ := h1
    obtain ⟨n, e2, e3⟩ := Option.map_eq_some_iff.mp e
    subst e3
    refine .inl ⟨a, _, i, .int n, rfl, h2, e1.sq, ?_, q.int⟩
    unfold L2.atI at e2 ⊢
    rw [List.length_map]
    cases q : ixN l.length i with
    | none => rw [q] at e2; cases e2
    | some j =>
      rw [q] at e2
      have e2' : l[j]? = some n := e2
      show (l.map V.int)[j]? = some (V.int n)
      rw [List.getElem?_map, e2']
      rfl
section
variable {G : Gb} {W : WX} {N : List Str} {sc : Scope} {k : Nat} {X : Cx} {F F1 F2 F3 : List SF} {f f1 f2 : VF}
theorem de_ix (g : Gv G N sc X) {a b : Expr} {pos : Pos} {ea eb : EvE} (ha : PE X a (TEv G W F F1 f1 ea)) (hb : PE X b (TEv G W F1 F2 f2 eb)) (hs : PlainIx b := by exact fun _ _ => rfl) :
    PE X (.Subscript a b pos) (TEv G W F F2 (.sh f1.dp) (eB2 oIx ea eb)) := by
  refine pe_imp (pe_ix ix_seq ha hb hs) ?_
  rw [g.K]
  exact OpS.core ops_ix (fun _ _ _ z => z) fun _ _ _ z => z
def nbL : List VF → Bool
  | [] => true
  | f :: fs => f.nb && nbL fs
def dpL : List VF → Bool
  | [] => true
  | f :: fs => f.dp && dpL fs
theorem RA.r {c : Fr} {O : Addr → Prop} {H : Hp} {d : D} {v : V} (h : RA G c O H f d v) (n : f.nb = true) : R G (Av c O f.dp) H d v := by
  cases f with
  | sh dp => exact h
  | uq dp => exact h
  | bo dp => cases n
theorem RVL.rl {c : Fr} {O : Addr → Prop} {H : Hp} : ∀ {fs : List VF} {ds : List D} {vs : List V}, RVL G c O H fs ds vs → nbL fs = true → RL G (Av c O (dpL fs)) H ds vs
  | [], _, _, ⟨h1, h2⟩, _ => by rw [h1, h2]; rfl
  | f :: fs, _, _, ⟨d, r, v, t, e1, e2, h1, h2⟩, n => by
    simp only [nbL, Bool.and_eq_true] at n
    rw [e1, e2]
    exact RL.cons ((h1.r n.1).an fun a z => z.dpand _) ((RVL.rl h2 n.2).an fun a z => z.dpand' _)
theorem RVL.len {c : Fr} {O : Addr → Prop} {H : Hp} : ∀ {fs : List VF} {ds : List D} {vs : List V}, RVL G c O H fs ds vs → ds.length = fs.length ∧ vs.length = fs.length
  | [], _, _, ⟨h1, h2⟩ => by rw [h1, h2]; exact ⟨rfl, rfl⟩
  | f :: fs, _, _, ⟨d, r, v, t, e1, e2, h1, h2⟩ => by
    have := RVL.len h2
    rw [e1, e2]
    simp [this.1, this.2]
def eTup (a : En → Rs (List D)) : EvE := fun en => bnd (a en) fun ds => .ok (.tup ds)
def eLst (a : En → Rs (List D)) : EvE := fun en => bnd (a en) fun ds => .ok (.lst ds)
theorem de_tup {es : List Expr} {n : Nat} {pos : Pos} {fs : List VF} {ea : En → Rs (List D)} (ha : PA X es (TAv G W F F1 fs ea)) (hn : nbL fs = true := by rfl) (hl : fs.length ≤ sizeLine := by decide) : PE X (.Tuple es n pos) (TEv G W F F1 (.uq (dpL fs)) (eTup ea)) := by
  refine pe_imp (pe_tup ha) ?_
  rintro σ H Q ⟨c, en, own, ok, m⟩
  refine ⟨c, en, own, ok, m.bnd.imp fun ds _ mx vs H1 own1 ok1 s1 b1 r1 => ?_⟩
  refine ⟨by rw [r1.len.2]; exact hl, fun p hp => (ok1.kp (f := .uq (dpL fs)) (z := .tup ds) fun v H2 own2 ok2 s2 b2 r2 => mx v H2 own2 ok2 (s1.trans s2) (sub_trans b1 s1 b2) r2).new p _ hp ⟨vs, rfl, r1.rl hn⟩⟩
theorem de_lst {es : List Expr} {pos : Pos} {fs : List VF} {ea : En → Rs (List D)} (ha : PA X es (TAv G W F F1 fs ea)) (hn : nbL fs = true := by rfl) (hl : fs.length ≤ sizeLine := by decide) : PE X (.List es pos) (TEv G W F F1 (.uq (dpL fs)) (eLst ea)) := by
  refine pe_imp (pe_lst ha) ?_
  rintro σ H Q ⟨c, en, own, ok, m⟩
  refine ⟨c, en, own, ok, m.bnd.imp fun ds _ mx vs H1 own1 ok1 s1 b1 r1 => ?_⟩
  refine ⟨by rw [r1.len.2]; exact hl, fun p hp => (ok1.kp (f := .uq (dpL fs)) (z := .lst ds) fun v H2 own2 ok2 s2 b2 r2 => mx v H2 own2 ok2 (s1.trans s2) (sub_trans b1 s1 b2) r2).new p _ hp ⟨vs, rfl, r1.rl hn⟩⟩
def eFl (ev : EvE) : EvE := fun en => bnd (ev en) fun d => if flat d = true then .ok d else .error .stuck
theorem de_fl {e : Expr} {ev : EvE} (h : PE X e (TEv G W F F1 f ev)) : PE X e (TEv G W F F1 (.uq true) (eFl ev)) := by
  refine pe_imp h ?_
  rintro σ H Q ⟨c, en, own, ok, m⟩
  refine ⟨c, en, own, ok, m.bnd.imp fun d _ md v H1 own1 ok1 s1 b1 r1 => ?_⟩
  split at md
  · rename_i hf
    exact md v H1 own1 ok1 s1 b1 ⟨[], flat_uq hf r1.b.r, fun a h => by cases h⟩
  · exact md.elim
def flatIn : D → Bool
  | .lst l => flat.flatL l
  | .dct _ l => flat.flatL l
  | d => flat d
def eFi (ev : EvE) : EvE := fun en => bnd (ev en) fun d => if flatIn d = true then .ok d else .error .stuck
theorem RO.fi {A A' : Addr → Prop} {H : Hp} {d : D} {v : V} {os : List Addr} (h : RO G A H d v os) (hf : flatIn d = true) : RO G A' H d v os := by
  cases d with
  | lst l => obtain ⟨a, xs, e, eo, h1, h2⟩ := h; exact ⟨a, xs, e, eo, h1, RL.flat l hf h2⟩
  | dct ks l => obtain ⟨a, kvs, e, eo, h1, h2, h3⟩ := h; exact ⟨a, kvs, e, eo, h1, h2, RL.flat l hf h3⟩
  | tup l => exact ⟨h.1, R.flat (.tup l) hf h.2⟩
  | non => exact h
  | bl _ => exact h
  | int _ => exact h
  | str _ => exact h
  | obj _ _ => cases hf
  | exc _ => cases hf
  | scr _ => cases hf
theorem de_fi {e : Expr} {ev : EvE} {dp : Bool} (h : PE X e (TEv G W F F1 (.uq dp) ev)) : PE X e (TEv G W F F1 (.uq true) (eFi ev)) := by
  refine pe_imp h ?_
  rintro σ H Q ⟨c, en, own, ok, m⟩
  refine ⟨c, en, own, ok, m.bnd.imp fun d _ md v H1 own1 ok1 s1 b1 r1 => ?_⟩
  split at md
  · rename_i hf
    obtain ⟨os, h1, h2⟩ := r1
    exact md v H1 own1 ok1 s1 b1 ⟨os, h1.fi hf, h2⟩
  · exact md.elim
def CallS (G : Gb) (fo : List VF → VF) (r : List V → Hp → VK → Prop) (op : List D → Option D) : Prop := ∀ (c : Fr) (O : Addr → Prop) (H : Hp) (fs : List VF) (ds : List D) (vs : List V) (z : D) (Q : VK),
  RVL G c O H fs ds vs → op ds = some z → Kp G c O H (fo fs) z Q → r vs H Q
def eBi (op : List D → Option D) (a : En → Rs (List D)) : EvE := fun en => bnd (a en) fun ds => ofO (op ds)
theorem CallS.core {fo : List VF → VF} {r : List V → Hp → VK → Prop} {op : List D → Option D} {fs : List VF} {ta : TA} {ea : En → Rs (List D)} (h : CallS G fo r op) (ha : ∀ σ H Q, TAv G W F F1 fs ea σ H Q → ta σ H Q) :
    ∀ σ H Q, TEv G W F F1 (fo fs) (eBi op ea) σ H Q → tCB r ta σ H Q := by
  rintro σ H Q ⟨c, en, own, ok, m⟩
  refine ha _ _ _ ⟨c, en, own, ok, m.bnd.imp fun ds _ mx vs H1 own1 ok1 s1 b1 r1 => ?_⟩
  obtain ⟨z, ez, q⟩ := mx.ofO
  exact h c _ H1 fs ds vs z Q r1 ez (ok1.kp fun v H2 own2 ok2 s2 b2 r2 => q v H2 own2 ok2 (s1.trans s2) (sub_trans b1 s1 b2) r2)
theorem de_callB (g : Gv G N sc X) {x : Str} {id : String} {p pos : Pos} {e : Expr} {es : List Expr} {fs : List VF} {fo : List VF → VF} {r : List V → Hp → VK → Prop} {op : List D → Option D} {ea : En → Rs (List D)} (hc : CallR X (.builtin id) r) (h : CallS G fo r op) (hm : G.mg x = none)
    (hv : bootBuiltins x = some (.builtin id)) (ha : PA X (e :: es) (TAv G W F F1 fs ea)) (hx : glbB sc x = true := by rfl) (hn : nameB x = true := by rfl)
    (he : starEach (e :: es) X.env = (false, eval e X.env) :: starEach es X.env := by rfl) (hpl : (backTo pos (starEach es X.env)).any (·.1) = false := by rfl) : PE X (.Call (.Name x p) (e :: es) [] pos) (TEv G W F F1 (fo fs) (eBi op ea)) :=
  pe_imp (pe_callB hc (glbB_gl hx g.sc) (by rw [g.mg]; exact hm) hv ha (nameB_d hn).2.2 (nameB_d hn).1 he hpl) (h.core fun _ _ _ z => z)
theorem de_callT (g : Gv G N sc X) {x : Str} {T : String} {p pos : Pos} {e : Expr} {es : List Expr} {fs : List VF} {fo : List VF → VF} {r : List V → Hp → VK → Prop} {op : List D → Option D} {ea : En → Rs (List D)} (hc : CallR X (.type T) r) (h : CallS G fo r op) (hm : G.mg x = none)
    (hv : bootBuiltins x = some (.type T)) (ha : PA X (e :: es) (TAv G W F F1 fs ea)) (hx : glbB sc x = true := by rfl) (hn : nameB x = true := by rfl)
    (he : starEach (e :: es) X.env = (false, eval e X.env) :: starEach es X.env := by rfl) (hpl : (backTo pos (starEach es X.env)).any (·.1) = false := by rfl) : PE X (.Call (.Name x p) (e :: es) [] pos) (TEv G W F F1 (fo fs) (eBi op ea)) :=
  pe_imp (pe_callTy hc (glbB_gl hx g.sc) (by rw [g.mg]; exact hm) hv ha (nameB_d hn).2.2 (nameB_d hn).1 he hpl) (h.core fun _ _ _ z => z)
abbrev foL : List VF → VF := fun _ => .uq true
theorem RVL.one {c : Fr} {O : Addr → Prop} {H : Hp} {fs : List VF} {d : D} {vs : List V} (h : RVL G c O H fs [d] vs) : ∃ f v, fs = [f] ∧ vs = [v] ∧ RB G (Av c O f.dp) H d v := by
  cases fs with
  | nil => cases h.1
  | cons f fs =>
    obtain ⟨d', r, v, t, e1, e2, h1, h2⟩ := h
    cases e1
    cases fs with
    | nil => rw [h2.2] at e2; exact ⟨f, v, rfl, e2, h1.b⟩
    | cons _ _ => obtain ⟨_, _, _, _, e, _⟩ := h2; cases e
theorem RVL.two {c : Fr} {O : Addr → Prop} {H : Hp} {fs : List VF} {d d' : D} {vs : List V} (h : RVL G c O H fs [d, d'] vs) : ∃ f f' v v', fs = [f, f'] ∧ vs = [v, v'] ∧ RB G (Av c O f.dp) H d v ∧ RB G (Av c O f'.dp) H d' v' := by
  cases fs with
  | nil => cases h.1
  | cons f fs =>
    obtain ⟨d', r, v, t, e1, e2, h1, h2⟩ := h
    cases e1
    obtain ⟨f', v', rfl, rfl, h3⟩ := h2.one
    exact ⟨f, f', v, v', rfl, e2, h1.b, h3⟩
def oLen : List D → Option D
  | [.lst l] => some (.int l.length)
  | [.tup l] => some (.int l.length)
  | [.scr l] => some (.int l.length)
  | [.dct ks _] => some (.int ks.length)
  | [.str s] => if s.length ≤ sizeLine then some (.int s.length) else none
  | _ => none
def rLen (K : PySem.W.Frag) : List V → Hp → VK → Prop := fun xs H Q => (∃ p ys, xs = [.ref p] ∧ (SqL K H p ys ∨ SqT K H p ys) ∧ Q (.int ys.length) H) ∨ (∃ z, xs = [.str z] ∧ z.length ≤ sizeLine ∧ Q (.int z.length) H) ∨
  ∃ a kvs, xs = [V.ref a] ∧ Rd H a (.dK kvs) ∧ Q (.int kvs.length) H
theorem call_or {X : Cx} {v : Value} {r1 r2 : List V → Hp → VK → Prop} (h1 : CallR X v r1) (h2 : CallR X v r2) : CallR X v (fun xs H Q => r1 xs H Q ∨ r2 xs H Q) := by
  intro pins s σ H xs us Q I r h
  rcases h with h | h
  · exact h1 pins s σ H xs us Q I r h
  · exact h2 pins s σ H xs us Q I r h
theorem callr_lenD {X : Cx} : CallR X (.builtin "len") (fun xs H Q => ∃ a kvs, xs = [V.ref a] ∧ Rd H a (.dK kvs) ∧ Q (.int kvs.length) H) := by
  intro pins s σ H xs us Q I r h
  obtain ⟨a, kvs, rfl, ha, q⟩ := h
  obtain ⟨u, rfl, ru⟩ := vals1 r
  cases ru
  exact d_len I ha fun t s' I' => ⟨.int kvs.length, H, I', ⟨t, rfl⟩, q⟩
theorem callr_len {X : Cx} : CallR X (.builtin "len") (rLen X.K) := call_or call_len_seq (call_or call_len_str callr_lenD)
theorem calls_len : CallS G foL (rLen G.K) oLen := by
  intro c O H fs ds vs z Q h e q
  match ds, e with
  | [.lst l], e =>
    cases e
    obtain ⟨f, v, rfl, rfl, a, xs, rfl, e1, r1⟩ := h.one
    exact .inl ⟨a, xs, rfl, .inl (SqL.of e1), by rw [r1.len]; exact q.int⟩
  | [.tup l], e =>
    cases e
    obtain ⟨f, v, rfl, rfl, a, xs, rfl, e1, r1⟩ := h.one
    exact .inl ⟨a, xs, rfl, .inr e1, by rw [r1.len]; exact q.int⟩
  | [.scr l], e =>
    cases e
    obtain ⟨f, v, rfl, rfl, a, rfl, e1⟩ := h.one
    exact .inl ⟨a, _, rfl, .inl e1.sq, by rw [List.length_map]; exact q.int⟩
  | [.dct ks l], e =>
    cases e
    obtain ⟨f, v, rfl, rfl, a, kvs, rfl, e1, rfl, r1⟩ := h.one
    exact .inr (.inr ⟨a, kvs, rfl, e1, by rw [List.length_map] at q; exact q.int⟩)
  | [.str s], e =>
    simp only [oLen] at e
    split at e
    · rename_i hl
      cases e
      obtain ⟨f, v, rfl, rfl, r1⟩ := h.one
      exact .inr (.inl ⟨s, congrArg (fun x => [x]) r1, hl, q.int⟩)
    · cases e
theorem de_len (g : Gv G N sc X) {p pos : Pos} {e : Expr} {fs : List VF} {ea : En → Rs (List D)} (hm : G.mg "len" = none) (ha : PA X [e] (TAv G W F F1 fs ea)) (hx : glbB sc "len" = true := by rfl)
    (he : starEach [e] X.env = [(false, eval e X.env)] := by rfl) : PE X (.Call (.Name "len" p) [e] [] pos) (TEv G W F F1 (.uq true) (eBi oLen ea)) :=
  de_callB g (fo := foL) (r := rLen G.K) (by rw [← g.K]; exact callr_len) calls_len hm PySem.boot_len ha hx (by decide) he rfl
def oAbs : List D → Option D
  | [.int i] => some (.int (if i < 0 then -i else i))
  | _ => none
theorem calls_abs : CallS G foL (fun xs H Q => ∃ i, xs = [.int i] ∧ Q (.int (if i < 0 then -i else i)) H) oAbs := by
  intro c O H fs ds vs z Q h e q
  match ds, e with
  | [.int i], e =>
    cases e
    obtain ⟨f, v, rfl, rfl, r1⟩ := h.one
    exact ⟨i, congrArg (fun x => [x]) r1, q.int⟩
theorem de_abs (g : Gv G N sc X) {p pos : Pos} {e : Expr} {fs : List VF} {ea : En → Rs (List D)} (hm : G.mg "abs" = none) (ha : PA X [e] (TAv G W F F1 fs ea)) (hx : glbB sc "abs" = true := by rfl)
    (he : starEach [e] X.env = [(false, eval e X.env)] := by rfl) : PE X (.Call (.Name "abs" p) [e] [] pos) (TEv G W F F1 (.uq true) (eBi oAbs ea)) :=
  de_callB g (fo := foL) call_abs calls_abs hm (by decide +kernel) ha hx (by decide) he rfl
def oMin : List D → Option D
  | [.int i, .int j] => some (.int (if j < i then j else i))
  | _ => none
theorem calls_min : CallS G foL (fun xs H Q => ∃ i j, xs = [.int i, .int j] ∧ Q (.int (if j < i then j else i)) H) oMin := by
  intro c O H fs ds vs z Q h e q
  match ds, e with
  | [.int i, .int j], e =>
    cases e
    obtain ⟨f, f', v, v', rfl, rfl, r1, r2⟩ := h.two
    exact ⟨i, j, by rw [show v = .int i from r1, show v' = .int j from r2], q.int⟩
theorem de_min (g : Gd G N sc k W X) {p pos : Pos} {e e' : Expr} {fs : List VF} {ea : En → Rs (List D)} (hm : G.mg "min" = none) (ha : PA X [e, e'] (TAv G W F F1 fs ea)) (hx : glbB sc "min" = true := by rfl)
    (he : starEach [e, e'] X.env = [(false, eval e X.env), (false, eval e' X.env)] := by rfl) (he2 : starEach [e'] X.env = [(false, eval e' X.env)] := by rfl) : PE X (.Call (.Name "min" p) [e, e'] [] pos) (TEv G W F F1 (.uq true) (eBi oMin ea)) :=
  de_callB g.toGv (fo := foL) (call_min2 g.calm) calls_min hm (by decide +kernel) ha hx (by decide) (by rw [he, he2]) (by rw [he2]; rfl)
def oInt : List D → Option D
  | [.int i] => some (.int i)
  | [.bl b] => some (.int (if b then 1 else 0))
  | _ => none
theorem calls_int : CallS G foL (fun xs H Q => (∃ i, xs = [.int i] ∧ Q (.int i) H) ∨ ∃ k, xs = [.bl k] ∧ Q (.int (if k then 1 else 0)) H) oInt := by
  intro c O H fs ds vs z Q h e q
  match ds, e with
  | [.int i], e =>
    cases e
    obtain ⟨f, v, rfl, rfl, r1⟩ := h.one
    exact .inl ⟨i, congrArg (fun x => [x]) r1, q.int⟩
  | [.bl i], e =>
    cases e
    obtain ⟨f, v, rfl, rfl, r1⟩ := h.one
    exact .inr ⟨i, congrArg (fun x => [x]) r1, q.int⟩
theorem de_int1 (g : Gv G N sc X) {p pos : Pos} {e : Expr} {fs : List VF} {ea : En → Rs (List D)} (hm : G.mg "int" = none) (ha : PA X [e] (TAv G W F F1 fs ea)) (hx : glbB sc "int" = true := by rfl)
    (he : starEach [e] X.env = [(false, eval e X.env)] := by rfl) : PE X (.Call (.Name "int" p) [e] [] pos) (TEv G W F F1 (.uq true) (eBi oInt ea)) :=
  de_callT g (fo := foL) call_int1 calls_int hm (by decide +kernel) ha hx (by decide) he rfl
def oNeg : D → Option D
  | .int i => some (.int (-i))
  | _ => none
theorem de_neg {a : Expr} {pos : Pos} {ea : EvE} (ha : PE X a (TEv G W F F1 f1 ea)) : PE X (.UnaryOp .USub a pos) (TEv G W F F1 (.uq true) (eU1 oNeg ea)) := by
  refine pe_imp (pe_un un_neg ha) ?_
  rintro σ H Q ⟨c, en, own, ok, m⟩
  refine ⟨c, en, own, ok, m.bnd.imp fun x _ mx v1 H1 own1 ok1 s1 b1 r1 => ?_⟩
  obtain ⟨z, ez, q⟩ := mx.ofO
  cases x <;> first | cases ez | skip
  exact ⟨_, r1.int, q _ H1 own1 ok1 s1 b1 (RV.mkI _)⟩
inductive Ty where
  | non | bool | int | str | tuple | list | dict
  deriving DecidableEq
def Ty.nm : Ty → String
  | .non => "NoneType" | .bool => "bool" | .int => "int" | .str => "str" | .tuple => "tuple" | .list => "list" | .dict => "dict"
def isiB (t u : Ty) : Bool := decide (t = u) || (decide (t = .bool) && decide (u = .int))
theorem kit_all : ∀ t u : Ty, kitB t.nm u.nm = some (isiB t u) := by
  intro t u
  cases t <;> cases u <;> decide +kernel
def tyD : D → Option Ty
  | .non => some .non | .bl _ => some .bool | .int _ => some .int | .str _ => some .str | .tup _ => some .tuple | .lst _ => some .list | .dct _ _ => some .dict | .scr _ => some .list
  | _ => none
theorem RB.ty {A : Addr → Prop} {H : Hp} {d : D} {v : V} {t : Ty} (h : RB G A H d v) (e : tyD d = some t) : TyX G.K H v (.type t.nm) := by
  cases d <;> cases e
  · rw [show v = .non from h]; exact .base .non
  · rw [show v = .bl _ from h]; exact .base (.bl _)
  · rw [show v = .int _ from h]; exact .base (.int _)
  · rw [show v = .str _ from h]; exact .base (.str _)
  · obtain ⟨a, xs, rfl, h1, _⟩ := h
    rcases h1 with (h1 | ⟨o, h1⟩) | ⟨o, its, n, h1, h2, _⟩
    · exact .base (.tup h1)
    · exact .fTuple h1
    · exact .kTuple h1 h2
  · obtain ⟨a, xs, rfl, h1, _⟩ := h
    exact .base (.lst h1)
  · obtain ⟨a, xs, rfl, h1, _⟩ := h
    rcases h1 with h1 | ⟨o, h1⟩
    · exact .base (.dK h1)
    · exact .fDict h1
  · obtain ⟨a, rfl, h1⟩ := h
    rcases h1 with ⟨o, h1⟩ | ⟨o, its, n, h1, h2, _⟩
    · exact .base (.frz h1)
    · exact .kList h1 h2
def eIsi (u : Ty) (a : EvE) : EvE := fun en => bnd (a en) fun d => bnd (ofO (tyD d)) fun t => .ok (.bl (isiB t u))
theorem de_isi (g : Gv G N sc X) (u : Ty) {p pos tp : Pos} {a : Expr} {ea : EvE} {T : Str} (hm : G.mg "isinstance" = none) (hm2 : G.mg T = none) (ha : PE X a (TEv G W F F1 f1 ea)) (hv : bootBuiltins T = some (.type u.nm)) (hx : glbB sc "isinstance" = true := by rfl) (hx2 : glbB sc T = true := by rfl) (hn : nameB T = true := by rfl)
    (he : starEach [a, .Name T tp] X.env = [(false, eval a X.env), (false, eval (.Name T tp) X.env)] := by rfl) : PE X (.Call (.Name "isinstance" p) [a, .Name T tp] [] pos) (TEv G W F F1 (.uq true) (eIsi u ea)) := by
  have hT : PE X (.Name T tp) (tC (.ty u.nm)) := pe_bltn (glbB_gl hx2 g.sc) (by rw [g.mg]; exact hm2) hv rfl (nameB_d hn).2.2 (nameB_d hn).1
  refine pe_imp (pe_callB call_isi (glbB_gl hx g.sc) (by rw [g.mg]; exact hm) (by decide +kernel) (pa_cons ha (pa_cons hT pa_nil) (by rw [he]; rfl)) (by decide) (by decide) (by rw [he]; rfl) rfl) ?_
  rintro σ H Q ⟨c, en, own, ok, m⟩
  refine ⟨c, en, own, ok, m.bnd.imp fun x _ mx v1 H1 own1 ok1 s1 b1 r1 => ?_⟩
  obtain ⟨t, et, q⟩ := mx.bnd.ofO
  exact ⟨v1, .ty u.nm, .type t.nm, .type u.nm, isiB t u, rfl, .ty _, by rw [g.K]; exact r1.b.ty et, kit_ty (kit_all t u), q _ H1 own1 ok1 s1 b1 (RV.mkB _)⟩
end
end Pi
namespace Pi
open PySem PySem.Spec PyProof.Rows L2
def RRet (G : Gb) (md : Bool) (A0 : Addr → Prop) (H H' : Hp) (d : D) (v : V) : Prop :=
  match md with
  | true => ∃ os, RO G (fun a => H a = none ∧ a ∉ os) H' d v os ∧ ∀ a, a ∈ os → H a = none
  | false => R G (fun a => H a = none ∨ A0 a) H' d v
def spF (G : Gb) (md : Bool) (n : Nat) (fn : List D → Rs D) : Sp := fun vs H Q E => vs.length = n ∧ ∃ (ds : List D) (A0 : Addr → Prop), RL G A0 H ds vs ∧
  match fn ds with
  | .ok d => ∀ v H', Same H H' → RRet G md A0 H H' d v → Q v H'
  | .error (.raise e) => ∀ H', Same H H' → E (.ref (G.xa e)) none H'
  | .error .stuck => False
structure Cal (G : Gb) (j : Nat) (x : Str) (md : Bool) (n : Nat) (fn : List D → Rs D) : Prop where
  ex : ∃ (f : Addr) (fd : FuncData) (ps : List Str), FnOk G.P G.w G.K G.mg G.base (L2.CX G.P G.w) j f fd ps (spF G md n fn) ∧ G.mg x = some (.ref f) ∧ PySem.W.keepIn G.K (.ref f) = true ∧ Binds G.K fd ps []
structure CalD (G : Gb) (j : Nat) (x : Str) (md : Bool) (n : Nat) (dd : D) (fn : List D → Rs D) : Prop where
  ex : ∃ (f : Addr) (fd : FuncData) (ps : List Str) (dv : V) (du : Value), FnOk G.P G.w G.K G.mg G.base (L2.CX G.P G.w) j f fd ps (spF G md (n + 1) fn) ∧ G.mg x = some (.ref f) ∧ PySem.W.keepIn G.K (.ref f) = true ∧ Binds G.K fd ps [du] ∧ RelV dv du ∧ flat dd = true ∧ ∀ A H, R G A H dd dv
section
variable {G : Gb} {W : WX} {N : List Str} {sc : Scope} {k : Nat} {X : Cx} {F F1 F2 F3 : List SF} {f f1 f2 : VF} {c : Fr} {en : En} {own : Own} {σ : L2.St} {H H' : Hp}
def Own.resL (w : Own) (os : List Addr) : Own := ⟨w.sl, fun a => w.tm a ∨ a ∈ os⟩
theorem sub_resL {w : Own} {os : List Addr} (h : ∀ a, a ∈ os → H a = none) : Sub (ow w) (ow (w.resL os)) H := fun a z => by
  rcases z with z | z | z
  · exact .inl (.inl z)
  · exact .inl (.inr z)
  · exact .inr (h a z)
theorem Ok.resL (ok : Ok G c F en own σ H) (s : Same H H') {os : List Addr} (h : ∀ a, a ∈ os → H a = none) (h' : ∀ a, a ∈ os → H' a ≠ none) : Ok G c F en (own.resL os) σ H' where
  lF := ok.lF
  lE := ok.lE
  same := fun b o n e => s _ _ (ok.same b o n e)
  tr := fun a h => same_ne s (ok.tr a h)
  dj := ok.dj
  dt := fun i a q z => z.elim (ok.dt i a q) fun e => (ok.nw i _ q).1 (h a e)
  nt := fun a q => q.elim (fun q => ⟨same_ne s (ok.nt a q).1, (ok.nt a q).2⟩) fun e => ⟨h' a e, ok.free (h a e)⟩
  nw := fun i a q => ⟨same_ne s (ok.nw i a q).1, (ok.nw i a q).2⟩
  sl := fun i => (ok.sl i).grow s rfl (sub_resL h)
  lk := fun a o q => ⟨s _ _ (ok.lk a o q).1, (ok.lk a o q).2.imp id fun n z => by
    rcases z with z | z | z
    · exact n (.inl z)
    · exact n (.inr z)
    · have := (ok.lk a o q).1; rw [h a z] at this; cases this⟩
theorem RO.at {A : Addr → Prop} {d : D} {v : V} {os : List Addr} (h : RO G A H d v os) : ∀ a, a ∈ os → H a ≠ none := by
  intro a ha
  cases d with
  | lst l => obtain ⟨b, xs, e, eo, h1, _⟩ := h; rw [eo] at ha; exact (by simpa using ha : a = b) ▸ (by rw [h1]; simp)
  | dct ks l => obtain ⟨b, xs, e, eo, h1, _⟩ := h; rw [eo] at ha; exact (by simpa using ha : a = b) ▸ (by rw [h1]; simp)
  | obj ks l => obtain ⟨b, dx, xs, e, eo, h1, _⟩ := h; rw [eo] at ha; exact (by simpa using ha : a = b) ▸ (by rw [h1]; simp)
  | exc _ => exact h.elim
  | _ => rw [h.1] at ha; cases ha
def VF.ret : Bool → VF
  | true => .uq true
  | false => .sh false
theorem Ok.back {md : Bool} {d : D} {v : V} (ok : Ok G c F en own σ H) (s : Same H H') (r : RRet G md (Av c (ow own) false) H H' d v) : ∃ own', Ok G c F en own' σ H' ∧ Sub (ow own) (ow own') H ∧ RV G c own' H' (VF.ret md) d v := by
  cases md with
  | true =>
    obtain ⟨os, h1, h2⟩ := r
    refine ⟨own.resL os, ok.resL s h2 h1.at, sub_resL h2, os, RO.up h1 (Up.same (Same.refl H') fun a ⟨z1, z2⟩ => ⟨fun y => ?_, fun _ => ok.free z1, .inl (ok.free z1)⟩) fun _ _ _ z => z, fun a ha => .inr ha⟩
    rcases y with y | y | y
    · exact ok.trk (.inl y) z1
    · exact ok.trk (.inr y) z1
    · exact z2 y
  | false =>
    refine ⟨own, ok.grow s, sub_refl, R.up (Up.same (Same.refl H') fun a z => ?_) _ r⟩
    rcases z with z | z
    · exact ⟨fun y => ok.trk y z, ⟨fun _ => ok.free z, .inl (ok.free z)⟩⟩
    · exact z
theorem Gd.fnOk (g : Gd G N sc k W X) {j : Nat} {f : Addr} {fd : FuncData} {ps : List Str} {sp : Sp} (h : FnOk G.P G.w G.K G.mg G.base (L2.CX G.P G.w) j f fd ps sp) : FnOk X.prog X.w X.K X.mg X.base (L2.CX X.prog X.w) j f fd ps sp := by
  rw [g.prog, g.w, g.K, g.mg, g.base]
  exact h
theorem RVL.any {O : Addr → Prop} : ∀ {fs : List VF} {ds : List D} {vs : List V}, RVL G c O H fs ds vs → RL G (fun _ => True) H ds vs
  | [], _, _, ⟨h1, h2⟩ => by rw [h1, h2]; rfl
  | f :: fs, _, _, ⟨d, r, v, t, e1, e2, h1, h2⟩ => by rw [e1, e2]; exact RL.cons h1.b.r (RVL.any h2)
def eCall (fn : List D → Rs D) (a : En → Rs (List D)) : EvE := fun en => bnd (a en) fn
def eCallD (fn : List D → Rs D) (dd : D) (a : En → Rs (List D)) : EvE := fun en => bnd (a en) fun ds => fn (ds ++ [dd])
def okArgs (md : Bool) (fs : List VF) : Bool := md || nbL fs
theorem call_core {md : Bool} {n : Nat} {fn : List D → Rs D} {fs : List VF} {ea : En → Rs (List D)} (hn : fs.length = n) (ha : okArgs md fs = true) {dvs : List V} {dds : List D} (hd : ∀ A H, RL G A H dds dvs) :
    ∀ σ H Q, TEv G W F F1 (VF.ret md) (fun en => bnd (ea en) fun ds => fn (ds ++ dds)) σ H Q → tCallSD (spF G md (n + dvs.length) fn) dvs (WE W) (TAv G W F F1 fs ea) σ H Q := by
  rintro σ H Q ⟨c, en, own, ok, m⟩
  refine ⟨c, en, own, ok, m.bnd.imp fun ds _ mx vs H1 own1 ok1 s1 b1 r1 => ?_⟩
  refine ⟨by rw [List.length_append, r1.len.2, hn], ds ++ dds, if md = true then fun _ => True else Av c (ow own1) false, RL.app ?_ (hd _ _), ?_⟩
  · cases md with
    | true => exact r1.any
    | false => exact (r1.rl (by simpa [okArgs] using ha)).an fun a z => z.undp
  · cases e : fn (ds ++ dds) with
    | ok d =>
      rw [e] at mx
      intro v H2 s2 r2
      have r2' : RRet G md (Av c (ow own1) false) H1 H2 d v := by cases md <;> exact r2
      obtain ⟨own2, ok2, b2, rv⟩ := ok1.back s2 r2'
      exact mx v H2 own2 ok2 (s1.trans s2) (sub_trans b1 s1 b2) rv
    | error x =>
      rw [e] at mx
      cases x with
      | stuck => exact mx.elim
      | raise x => exact fun H2 s2 => mx H2 fun b o nb e => s2 _ _ (ok1.same b o nb e)
theorem de_call (g : Gd G N sc k W X) {j : Nat} {x : Str} {md : Bool} {n : Nat} {fn : List D → Rs D} (C : Cal G j x md n fn) {p pos : Pos} {e : Expr} {es : List Expr} {fs : List VF} {ea : En → Rs (List D)} (ha : PA X (e :: es) (TAv G W F F1 fs ea))
    (hj : j ≤ k := by decide) (hn : fs.length = n := by rfl) (ho : okArgs md fs = true := by rfl) (hx : glbB sc x = true := by rfl) (hnm : nameB x = true := by rfl)
    (he : starEach (e :: es) X.env = (false, eval e X.env) :: starEach es X.env := by rfl) (hpl : (backTo pos (starEach es X.env)).any (·.1) = false := by rfl) : PE X (.Call (.Name x p) (e :: es) [] pos) (TEv G W F F1 (VF.ret md) (eCall fn ea)) := by
  obtain ⟨f, fd, ps, hF, hm, hk, hb⟩ := C.ex
  refine pe_imp (pe_callSD (dvs := []) (ds := []) (g.fnOk hF) (g.room.mono hj) (glbB_gl hx g.sc) (by rw [g.mg]; exact hm) (by rw [g.K]; exact hk) (by rw [g.K]; exact hb) .nil (fun σ => passAt g.tk σ) ha (nameB_d hnm).1 he hpl) ?_
  have q := call_core (G := G) (W := W) (F := F) (F1 := F1) (md := md) (n := n) (fn := fn) (ea := ea) hn ho (dvs := []) (dds := []) fun _ _ => RL.nil
  simp only [List.append_nil, List.length_nil, Nat.add_zero] at q
  exact q
def tkL : List SF → Nat → List SF
  | [], _ => []
  | _ :: F, 0 => .n :: F
  | f :: F, i + 1 => f :: tkL F i
theorem tkL_wk : ∀ (F : List SF) (i : Nat), wkL F (tkL F i) = true
  | [], _ => rfl
  | f :: F, 0 => by
    have h : ∀ F : List SF, wkL F F = true := fun F => by
      induction F with
      | nil => rfl
      | cons f F ih => cases f <;> simp [wkL, SF.wk, ih]
    cases f <;> simp [tkL, wkL, SF.wk, h]
  | f :: F, i + 1 => by
    have := tkL_wk F i
    cases f <;> simp [tkL, wkL, SF.wk, this]
theorem tkL_at : ∀ {F : List SF} {i : Nat} {f : SF}, F[i]? = some f → (tkL F i)[i]? = some .n
  | [], _, _, h => by simp at h
  | f :: F, 0, _, h => rfl
  | f :: F, i + 1, _, h => tkL_at (F := F) (i := i) (by simpa using h)
def SF.tkV : SF → VF
  | .o d => .uq d
  | .s d => .sh d
  | _ => .bo false
theorem de_tk (g : Gv G N sc X) (i : Nat) {x : Str} {pos : Pos} {fl : SF} (hN : N[i]? = some x := by rfl) (hv : visB sc x = true := by rfl) (hx : nameB x = true := by rfl) (hf : F[i]? = some fl := by rfl) (hn : fl.mvOk = true := by rfl) :
    PE X (.Name x pos) (TEv G W F (tkL F i) fl.tkV (eVar i)) := by
  obtain ⟨h1, h2, _⟩ := nameB_d hx
  refine pe_imp (pe_var (i := i) (by rw [g.nN]; exact hN) (visB_vis hv g.sc) h1 h2) ?_
  rintro σ H Q ⟨c, en, own, ok, m⟩
  unfold eVar at m
  split at m
  · rename_i d he
    obtain ⟨x', e1, q⟩ := ok.get he hf (by cases fl <;> simp_all [SF.mvOk]) (by cases fl <;> simp_all [SF.mvOk])
    refine ⟨x', e1, ?_⟩
    obtain ⟨own', ok', sb, tmq⟩ := ok.weak (tkL_wk F i)
    cases fl with
    | n => cases hn
    | z => cases hn
    | x _ => cases hn
    | dt _ => cases hn
    | ma _ => cases hn
    | s dp => exact m x' H own' ok' (Same.refl H) (fun a h => .inl (sb a h)) (R.up (Up.sub sb (by cases dp <;> rfl)) _ q)
    | o dp =>
      -- what the slot owned is reserved
      have h0 : ∀ a, a ∈ own.sl i → H a ≠ none ∧ c.H0 a = none := fun a ha => ⟨(ok.nw i a ha).1, (ok.nw i a ha).2.resolve_right fun ⟨z, _⟩ => by rw [hf] at z; cases z⟩
      let own2 : Own := ⟨fun j => if j = i then [] else own.sl j, fun a => own.tm a ∨ a ∈ own.sl i⟩
      have hs2 : ∀ a, ow own2 a → ow own a := fun a z => by
        rcases z with ⟨j, hj⟩ | z | z
        · have hj' : a ∈ (if j = i then [] else own.sl j) := hj
          split at hj'
          · cases hj'
          · exact .inl ⟨j, hj'⟩
        · exact .inr z
        · exact .inl ⟨i, z⟩
      have hsl : ∀ j a, a ∈ own2.sl j → j ≠ i ∧ a ∈ own.sl j := fun j a hj => by
        have hj' : a ∈ (if j = i then [] else own.sl j) := hj
        split at hj'
        · cases hj'
        · exact ⟨by assumption, hj'⟩
      have ok2 : Ok G c (tkL F i) en own2 σ H := by
        refine ⟨ok'.lF, ok.lE, ok.same, ok.tr, fun j1 j2 a q1 q2 => ok.dj j1 j2 a (hsl _ _ q1).2 (hsl _ _ q2).2, fun j a q1 q2 => ?_, fun a q1 => q1.elim (ok.nt a) (h0 a), fun j a q1 => ?_, fun j => ?_, fun a o h => ⟨(ok.lk a o h).1, (ok.lk a o h).2.imp id fun n z => n (hs2 a z)⟩⟩
        · rcases q2 with q2 | q2
          · exact ok.dt j a (hsl _ _ q1).2 q2
          · exact (hsl _ _ q1).1 (ok.dj j i a (hsl _ _ q1).2 q2)
        · obtain ⟨ne, q⟩ := hsl _ _ q1
          obtain ⟨q3, q4⟩ := ok.nw j a q
          refine ⟨q3, q4.imp id fun ⟨z1, z2⟩ => ⟨?_, z2⟩⟩
          have : ∀ (F : List SF) (i j : Nat), j ≠ i → (tkL F i)[j]? = F[j]? := fun F => by
            induction F with
            | nil => intro i j _; rfl
            | cons f F ih =>
              intro i j ne
              cases i with
              | zero => cases j with
                | zero => exact absurd rfl ne
                | succ j => rfl
              | succ i => cases j with
                | zero => rfl
                | succ j => exact ih i j (fun e => ne (congrArg Nat.succ e))
          rw [this F i j ne]
          exact z1
        · by_cases e : j = i
          · subst e
            unfold Slt
            rw [tkL_at hf]
            trivial
          · have es : own2.sl j = own.sl j := if_neg e
            have h2 := (ok.sl j).grow (w' := own2) (Same.refl H) es fun a z => .inl (hs2 a z)
            unfold Slt at h2 ⊢
            have : ∀ (F : List SF) (i j : Nat), j ≠ i → (tkL F i)[j]? = F[j]? := fun F => by
              induction F with
              | nil => intro i j _; rfl
              | cons f F ih =>
                intro i j ne
                cases i with
                | zero => cases j with
                  | zero => exact absurd rfl ne
                  | succ j => rfl
                | succ i => cases j with
                  | zero => rfl
                  | succ j => exact ih i j (fun e => ne (congrArg Nat.succ e))
            rw [this F i j e]
            exact h2
      exact m x' H own2 ok2 (Same.refl H) (fun a z => .inl (hs2 a z)) ⟨own.sl i, RO.up q (Up.sub hs2 (by cases dp <;> rfl)) fun _ _ _ z => z, fun a ha => .inr ha⟩
  · exact m.elim
end
end Pi
namespace Pi
open PySem PySem.Spec PyProof.Rows L2
structure Se where
  md : Bool
  W : WX
  Fc : List SF
structure Gs (G : Gb) (N : List Str) (sc : Scope) (k : Nat) (W : WX) (X : Cx) : Prop where
  g : Gd G N sc k W X
  fn : ∀ x, X.fn x = true
  kd : sc.kind = .function
  stk : X.stack = X.env :: X.outer
  frm : X.env.frame = some X.env.locals
def MtS (G : Gb) (W : WX) (c : Fr) {α : Type} (r : Rs α) (k : α → Prop) : Prop :=
  match r with
  | .ok a => k a
  | .error (.raise e) => ∀ σ' H', c.Sm H' → W (.ref (G.xa e)) none σ' H'
  | .error .stuck => False
def Fr.Lk (c : Fr) (H : Hp) : Prop := ∀ a o, c.L a = some o → H a = some o
def Aft (G : Gb) (S : Se) (c : Fr) (Fo : List SF) (D : Ends) : Fl → Prop
  | .nx en' => ∀ σ' H' own', Ok G c Fo en' own' σ' H' → D.nx σ' H'
  | .rt d => ∀ v H', c.Sm H' → c.Lk H' → RRet G S.md c.A0 c.H0 H' d v → D.rt v H'
  | .ct en' => ∀ σ' H' own', Ok G c S.Fc en' own' σ' H' → D.ct σ' H'
def TSv (G : Gb) (S : Se) (F : List SF) (Fo : List SF) (st : EvS) : TS := fun D σ H => ∃ (c : Fr) (en : En) (own : Own), Ok G c F en own σ H ∧ MtS G S.W c (st en) (Aft G S c Fo D)
section
variable {G : Gb} {S : Se} {W : WX} {N : List Str} {sc : Scope} {k : Nat} {X : Cx} {F F1 F2 F3 : List SF} {Fo : List SF} {f f1 f2 : VF} {c : Fr} {en : En} {own : Own} {σ : L2.St} {H H' : Hp}
theorem MtS.e {α : Type} {r : Rs α} {q : α → Prop} (h : MtS G W c r q) : Mt G W c σ r q := by
  cases r with
  | ok a => exact h
  | error e => cases e with
    | raise e => exact h σ
    | stuck => exact h
theorem MtS.bnd {α β : Type} {r : Rs α} {f : α → Rs β} {q : β → Prop} (h : MtS G W c (bnd r f) q) : MtS G W c r fun a => MtS G W c (f a) q := by
  cases r with
  | ok a => exact h
  | error e => cases e with
    | raise e => exact h
    | stuck => exact h
theorem MtS.imp {α : Type} {r : Rs α} {q q' : α → Prop} (h : MtS G W c r q) (m : ∀ a, r = .ok a → q a → q' a) : MtS G W c r q' := by
  cases r with
  | ok a => exact m a rfl h
  | error e => cases e with
    | raise e => exact h
    | stuck => exact h
theorem MtS.ofO {α : Type} {o : Option α} {q : α → Prop} (h : MtS G W c (ofO o) q) : ∃ a, o = some a ∧ q a := by
  cases o with
  | none => exact h.elim
  | some a => exact ⟨a, rfl, h⟩
def sNil : EvS := fun en => .ok (.nx en)
def sSeq (s t : EvS) : EvS := fun en => bnd (s en) fun fl => match fl with
  | .nx en' => t en'
  | x => .ok x
theorem ds_nil : PSs X [] (TSv G S F F sNil) := by
  refine pss_imp pss_nil ?_
  rintro D σ H ⟨c, en, own, ok, m⟩
  exact m σ H own ok
theorem ds_cons {st : Stmt} {rest : List Stmt} {s t : EvS} (h1 : PS X st (TSv G S F F1 s)) (h2 : PSs X rest (TSv G S F1 Fo t)) : PSs X (st :: rest) (TSv G S F Fo (sSeq s t)) := by
  refine pss_imp (pss_cons h1 h2) ?_
  rintro D σ H ⟨c, en, own, ok, m⟩
  refine ⟨c, en, own, ok, m.bnd.imp fun fl _ mf => ?_⟩
  cases fl with
  | nx en' => exact fun σ' H' own' ok' => ⟨c, en', own', ok', mf⟩
  | rt d => exact mf
  | ct en' => exact mf
theorem ds_one {st : Stmt} {s : EvS} (h1 : PS X st (TSv G S F Fo s)) : PSs X [st] (TSv G S F Fo s) := pss_one h1
theorem dss_wk {st : List Stmt} {s : EvS} (h : PSs X st (TSv G S F F1 s)) (w : wkL F1 F2 = true := by rfl) : PSs X st (TSv G S F F2 s) := by
  refine pss_imp h ?_
  rintro D σ H ⟨c, en, own, ok, m⟩
  refine ⟨c, en, own, ok, m.imp fun fl _ mf => ?_⟩
  cases fl with
  | nx en' =>
    intro σ' H' own' ok'
    obtain ⟨own2, ok2, _⟩ := ok'.weak w
    exact mf σ' H' own2 ok2
  | rt d => exact mf
  | ct en' => exact mf
def sRet (ev : EvE) : EvS := fun en => bnd (ev en) fun d => .ok (.rt d)
def sRai (e : Nat) : EvS := fun _ => .error (.raise e)
def sEx (ev : EvE) : EvS := fun en => bnd (ev en) fun _ => .ok (.nx en)
theorem Ok.ret {md : Bool} {d : D} {v : V} (ok : Ok G c F en own σ H) (r : RV G c own H f d v) (n : f.nb = true) (h : md = true → ∃ b, f = .uq b ∧ b = true) : RRet G md c.A0 c.H0 H d v := by
  cases md with
  | true =>
    obtain ⟨b, rfl, rfl⟩ := h rfl
    obtain ⟨os, h1, h2⟩ := r
    exact ⟨os, RO.up h1 (Up.same (Same.refl H) fun a z => ⟨z.2.1 rfl, fun y => z.1 (.inr (h2 a y))⟩) fun _ _ _ z => z, fun a ha => (ok.nt a (h2 a ha)).2⟩
  | false =>
    obtain ⟨own', ok', _, q⟩ := r.share ok n
    exact R.up (Up.same (Same.refl H) fun a z => z.2.2) _ q
def retOk (md : Bool) (f : VF) : Bool := match md, f with
  | true, .uq true => true
  | true, _ => false
  | false, f => f.nb
theorem retOk_of {md : Bool} (h : retOk md f = true) : f.nb = true ∧ (md = true → ∃ b, f = .uq b ∧ b = true) := by
  cases md with
  | true =>
    cases f with
    | uq b => cases b with
      | true => exact ⟨rfl, fun _ => ⟨true, rfl, rfl⟩⟩
      | false => cases h
    | sh _ => cases h
    | bo _ => cases h
  | false => exact ⟨h, fun z => by cases z⟩
theorem ds_ret {e : Expr} {pos : Pos} {ev : EvE} (he : PE X e (TEv G S.W F F1 f ev)) (h : retOk S.md f = true := by rfl) : PS X (.Return (some e) pos) (TSv G S F Fo (sRet ev)) := by
  refine ps_imp (ps_ret he) ?_
  rintro D σ H ⟨c, en, own, ok, m⟩
  obtain ⟨n, h2⟩ := retOk_of h
  exact ⟨c, en, own, ok, m.bnd.e.imp fun d _ q v H1 own1 ok1 s1 b1 r1 => q v H1 ok1.same (fun a o h => (ok1.lk a o h).1) (ok1.ret r1 n h2)⟩
structure Xcl (G : Gb) (x : Str) (e : Nat) : Prop where
  gl : G.mg x = some (.ref (G.xa e))
  ex : PySem.W.excIn G.K (G.xa e) [.type "ValueError", .type "Exception", .type "BaseException", .type "object"] "ValueError.__new__" = true
  kp : PySem.W.keepIn G.K (.ref (G.xa e)) = true
  sb : PySem.W.subIn G.K (.ref (G.xa e)) (.type "BaseException") = some true
  ty : PySem.W.typeIn G.K (.ref (G.xa e)) = some (.type "type")
theorem ds_rai (g : Gd G N sc k S.W X) {x m : Str} {e j : Nat} {p p2 pos cpos : Pos} (C : Xcl G x e) (hx : glbB sc x = true := by rfl) (hn : nameB x = true := by rfl) : PS X (.Raise (some (.Call (.Name x p) [.Constant (.str m) j p2] [] cpos)) none pos) (TSv G S F Fo (sRai e)) := by
  refine ps_imp (ps_raise g.calm g.tk (pmk_own PySem.F.excBase_ValueError (by rw [g.K]; exact C.ex) (by rw [g.mg]; exact C.gl) (by rw [g.K]; exact C.kp) (raises_own (by rw [g.K]; exact C.sb) (by rw [g.K]; exact C.ty)) (glbB_gl hx g.sc) (nameB_d hn).1)) ?_
  rintro D σ H ⟨c, en, own, ok, m⟩
  exact m σ H ok.same
def sIf (t : En → Rs Bool) (a b : EvS) : EvS := fun en => bnd (t en) fun c => if c = true then a en else b en
theorem ds_if {c : Expr} {a b : List Stmt} {pos : Pos} {t : En → Rs Bool} {ea eb : EvS} (hc : PT X c (TTv G S.W F F1 t)) (ha : PSs X a (TSv G S F1 Fo ea)) (hb : PSs X b (TSv G S F1 Fo eb)) : PS X (.If c a b pos) (TSv G S F Fo (sIf t ea eb)) := by
  refine ps_imp (ps_if hc ha hb) ?_
  rintro D σ H ⟨c, en, own, ok, m⟩
  refine ⟨c, en, own, ok, m.bnd.e.imp fun x _ mx H1 own1 ok1 s1 b1 => ?_⟩
  cases x with
  | true => rw [if_pos rfl] at mx; exact iteT ⟨c, en, own1, ok1, mx⟩
  | false => rw [if_neg (by decide)] at mx; exact iteF ⟨c, en, own1, ok1, mx⟩
def whB (r : Rs Fl) (k : En → Option (Rs Fl)) : Option (Rs Fl) := match r with
  | .error e => some (.error e)
  | .ok (.nx en') => k en'
  | .ok (.ct en') => k en'
  | .ok (.rt d) => some (.ok (.rt d))
def whT (r : Rs Bool) (en : En) (k : Option (Rs Fl)) : Option (Rs Fl) := match r with
  | .error e => some (.error e)
  | .ok false => some (.ok (.nx en))
  | .ok true => k
def whN (t : En → Rs Bool) (b : EvS) : Nat → En → Option (Rs Fl)
  | 0, _ => none
  | n + 1, en => whT (t en) en (whB (b en) (whN t b n))
open Classical in
noncomputable def sWh (t : En → Rs Bool) (b : EvS) : EvS := fun en => if h : ∃ n r, whN t b n en = some r then Classical.choose (Classical.choose_spec h) else .error .stuck
theorem whN_mono {t : En → Rs Bool} {b : EvS} : ∀ {n m : Nat} {en : En} {r : Rs Fl}, n ≤ m → whN t b n en = some r → whN t b m en = some r
  | 0, _, _, _, _, h => by cases h
  | n + 1, 0, _, _, h, _ => by omega
  | n + 1, m + 1, en, r, hm, h => by
    unfold whN at h ⊢
    revert h
    cases t en with
    | error e => exact id
    | ok c =>
      cases c with
      | false => exact id
      | true =>
        show whB (b en) (whN t b n) = some r → whB (b en) (whN t b m) = some r
        cases b en with
        | error e => exact id
        | ok fl =>
          cases fl with
          | nx en' => exact whN_mono (Nat.le_of_succ_le_succ hm)
          | ct en' => exact whN_mono (Nat.le_of_succ_le_succ hm)
          | rt d => exact id
theorem sWh_of {t : En → Rs Bool} {b : EvS} {n : Nat} {en : En} {r : Rs Fl} (h : whN t b n en = some r) : sWh t b en = r := by
  have hx : ∃ n r, whN t b n en = some r := ⟨n, r, h⟩
  unfold sWh
  rw [dif_pos hx]
  have h2 := Classical.choose_spec (Classical.choose_spec hx)
  have h3 := whN_mono (Nat.le_max_left n (Classical.choose hx)) h
  have h4 := whN_mono (Nat.le_max_right n (Classical.choose hx)) h2
  rw [h3] at h4
  exact (Option.some.inj h4).symm
theorem sWh_eq (t : En → Rs Bool) (b : EvS) (en : En) : sWh t b en = bnd (t en) fun c => if c = true then bnd (b en) fun fl => match fl with
    | .nx en' => sWh t b en'
    | .ct en' => sWh t b en'
    | x => .ok x
  else .ok (.nx en) := by
  have one : ∀ r, whN t b 1 en = some r → sWh t b en = r := fun r h => sWh_of h
  have e1 : ∀ n, whN t b (n + 1) en = whT (t en) en (whB (b en) (whN t b n)) := fun n => rfl
  cases ht : t en with
  | error e => exact one _ (by rw [e1, ht]; rfl)
  | ok c =>
    cases c with
    | false => exact one _ (by rw [e1, ht]; rfl)
    | true =>
      cases hb : b en with
      | error e => exact one _ (by rw [e1, ht, hb]; rfl)
      | ok fl =>
        have step : ∀ en', (fl = .nx en' ∨ fl = .ct en') → sWh t b en = sWh t b en' := fun en' hfl => by
          have e2 : ∀ n, whN t b (n + 1) en = whN t b n en' := fun n => by
            rw [e1, ht, hb]
            rcases hfl with rfl | rfl <;> rfl
          by_cases hx : ∃ n r, whN t b n en' = some r
          · obtain ⟨n, r, h⟩ := hx
            rw [sWh_of h]
            exact sWh_of (n := n + 1) ((e2 n).trans h)
          · have hx' : ¬ ∃ n r, whN t b n en = some r := fun ⟨n, r, h⟩ => by
              cases n with
              | zero => cases h
              | succ n => exact hx ⟨n, r, (e2 n).symm.trans h⟩
            unfold sWh
            rw [dif_neg hx, dif_neg hx']
        cases fl with
        | nx en' => exact step en' (.inl rfl)
        | ct en' => exact step en' (.inr rfl)
        | rt d => exact one _ (by rw [e1, ht, hb]; rfl)
theorem sWh_some {t : En → Rs Bool} {b : EvS} {en : En} (h : sWh t b en ≠ .error .stuck) : ∃ n r, whN t b n en = some r := by
  by_cases hx : ∃ n r, whN t b n en = some r
  · exact hx
  · exact absurd (by unfold sWh; rw [dif_neg hx]) h
theorem ds_while (g : Gd G N sc k S.W X) {c : Expr} {b : List Stmt} {pos : Pos} {t : En → Rs Bool} {eb : EvS} (hc : PT X c (TTv G S.W F F t)) (hb : PSs X b (TSv G { S with Fc := F } F F eb)) : PS X (.While c b [] pos) (TSv G S F F (sWh t eb)) := by
  refine ps_imp (ps_while g.po hc hb) ?_
  rintro D σ H ⟨c, en, own, ok, m⟩
  have hns : sWh t eb en ≠ .error .stuck := fun z => by rw [z] at m; exact m
  obtain ⟨n0, r0, h0⟩ := sWh_some hns
  refine ⟨fun n σ H => ∃ en own r, Ok G c F en own σ H ∧ whN t eb n en = some r ∧ MtS G S.W c r (Aft G S c F D), ⟨n0, en, own, r0, ok, h0, by rw [← sWh_of h0]; exact m⟩, ?_⟩
  rintro n σ H ⟨en, own, r, ok, h, m⟩
  cases n with
  | zero => cases h
  | succ n =>
    unfold whN at h
    refine ⟨c, en, own, ok, ?_⟩
    cases ht : t en with
    | error e =>
      rw [ht] at h
      cases h
      cases e with
      | raise e => exact m σ
      | stuck => exact m
    | ok cv =>
      rw [ht] at h
      intro H1 own1 ok1 s1 b1
      cases cv with
      | false =>
        cases h
        exact m σ H1 own1 ok1
      | true =>
        refine ⟨fun σ' H' => ∃ en own r, Ok G c F en own σ' H' ∧ whN t eb n en = some r ∧ MtS G S.W c r (Aft G S c F D), fun σ' H' q => ⟨n, Nat.lt_succ_self n, q⟩, c, en, own1, ok1, ?_⟩
        have h' : whB (eb en) (whN t eb n) = some r := h
        cases he : eb en with
        | error e =>
          rw [he] at h'
          cases h'
          cases e with
          | raise e => exact m
          | stuck => exact m
        | ok fl =>
          rw [he] at h'
          cases fl with
          | nx en' => exact fun σ' H' own' ok' => ⟨en', own', r, ok', h', m⟩
          | ct en' => exact fun σ' H' own' ok' => ⟨en', own', r, ok', h', m⟩
          | rt d => cases h'; exact m
end
end Pi
namespace Pi
open PySem PySem.Spec PyProof.Rows L2
def plainLocB (sc : Scope) (x : Str) : Bool := match sc.names.lookup x with
  | some .local => true
  | _ => false
section
variable {G : Gb} {S : Se} {W : WX} {N : List Str} {sc : Scope} {k : Nat} {X : Cx} {F F1 F2 F3 : List SF} {Fo : List SF} {f f1 f2 : VF} {c : Fr} {en : En} {own : Own} {σ : L2.St} {H H' : Hp}
theorem locB_loc {x : Str} (h : locB sc x = true) (e : X.env.scope = sc) : Loc X.env.scope x := by
  rw [e]
  unfold locB at h
  split at h
  · exact .inl (by assumption)
  · exact .inr (by assumption)
  · cases h
theorem plainLocB_loc {x : Str} (h : plainLocB sc x = true) (e : X.env.scope = sc) : X.env.scope.names.lookup x = some .local := by
  rw [e]
  unfold plainLocB at h
  split at h
  · assumption
  · cases h
def zB (F : List SF) (i : Nat) : Bool := decide (i < F.length) && (match F[i]? with
  | some .z => false
  | some (.ma _) => false
  | _ => true)
theorem zB_of {i : Nat} (h : zB F i = true) : i < F.length ∧ ¬ SF.me F[i]? := by
  unfold zB at h
  simp only [Bool.and_eq_true, decide_eq_true_eq] at h
  obtain ⟨h1, h2⟩ := h
  refine ⟨h1, fun e => ?_⟩
  cases q : F[i]? with
  | none => rw [q] at e; exact e
  | some f =>
    rw [q] at e h2
    cases f <;> first | exact e | cases h2
def sAs (i : Nat) (ev : EvE) : EvS := fun en => bnd (ev en) fun d => .ok (.nx (en.set i (some d)))
theorem as_core {i : Nat} {ev : EvE} {te : TE} (hz : zB F1 i = true) (hn : f.nb = true) (ht : ∀ σ H Q, TEv G S.W F F1 f ev σ H Q → te σ H Q) : ∀ D σ H, TSv G S F (F1.set i f.slot) (sAs i ev) D σ H → tAsg te (gName i) D σ H := by
  rintro D σ H ⟨c, en, own, ok, m⟩
  refine ht _ _ _ ⟨c, en, own, ok, m.bnd.e.imp fun d _ q v H1 own1 ok1 s1 b1 r1 => ?_⟩
  obtain ⟨h1, h2⟩ := zB_of hz
  obtain ⟨own2, ok2, _⟩ := ok1.put h1 h2 r1 hn
  exact q _ H1 own2 ok2
theorem ds_as (g : Gv G N sc X) (hfn : ∀ x, X.fn x = true) (i : Nat) {x : Str} {e : Expr} {pos pos' : Pos} {ev : EvE} (he : PE X e (TEv G S.W F F1 f ev)) (hN : N[i]? = some x := by rfl) (hx : locB sc x = true := by rfl) (hz : zB F1 i = true := by rfl) (hn : f.nb = true := by rfl)
    (hs : swapsWith e (some (.Name x pos')) pos.line X.env = pure false := by rfl) : PS X (.Assign [.Name x pos'] e pos) (TSv G S F (F1.set i f.slot) (sAs i ev)) :=
  ps_imp (ps_set (by rw [g.nN]; exact g.nd) (by rw [g.nN]; exact hN) (locB_loc hx g.sc) he hs (.inl (hfn x))) (as_core hz hn fun _ _ _ z => z)
def setAll : En → List Nat → List D → En
  | en, i :: is, d :: ds => setAll (en.set i (some d)) is ds
  | en, _, _ => en
def sTu (is : List Nat) (ev : EvE) : EvS := fun en => bnd (ev en) fun d => match d with
  | .tup ds => if ds.length = is.length then .ok (.nx (setAll en is ds)) else .error .stuck
  | _ => .error .stuck
def setF (F : List SF) (f : SF) : List Nat → List SF
  | [] => F
  | i :: is => setF (F.set i f) f is
def tgB (N : List Str) (sc : Scope) (F : List SF) : List Nat → List Expr → Bool
  | [], [] => true
  | i :: is, .Name x _ :: es => decide (N[i]? = some x) && locB sc x && zB F i && tgB N sc F is es
  | _, _ => false
def gNames : List Nat → TGs
  | [] => gNil
  | i :: is => gCons (gName i) (gNames is)
theorem zB_set {i j : Nat} {f : SF} (hf : ¬ SF.me (some f)) (h : zB F i = true) : zB (F.set j f) i = true := by
  obtain ⟨h1, h2⟩ := zB_of h
  have h3 : i < (F.set j f).length := by simpa using h1
  have h4 : ¬ SF.me (F.set j f)[i]? := by
    by_cases e : j = i
    · subst e; rw [List.getElem?_set_self h1]; exact hf
    · rw [List.getElem?_set_ne e]; exact h2
  unfold zB
  simp only [Bool.and_eq_true, decide_eq_true_eq]
  refine ⟨h3, ?_⟩
  cases q : (F.set j f)[i]? with
  | none => trivial
  | some x => rw [q] at h4; cases x <;> first | trivial | exact absurd trivial h4
theorem tgB_set {j : Nat} {f : SF} (hf : ¬ SF.me (some f)) : ∀ {is : List Nat} {es : List Expr}, tgB N sc F is es = true → tgB N sc (F.set j f) is es = true
  | [], [], _ => rfl
  | i :: is, .Name x _ :: es, h => by
    simp only [tgB, Bool.and_eq_true] at h ⊢
    exact ⟨⟨h.1.1, zB_set hf h.1.2⟩, tgB_set hf h.2⟩
  | [], e :: es, h => by cases e <;> cases h
  | i :: is, [], h => by cases h
theorem dg_names (hnN : X.N = N) (hnd : N.Nodup) (hsc : X.env.scope = sc) (hfn : ∀ x, locB sc x = true → X.fn x = true ∨ X.env.scope.names.lookup x = some .local) : ∀ {is : List Nat} {es : List Expr}, tgB N sc F is es = true →
    PGs X es (gNames is) ∧ (assignEach es X.env).length = is.length ∧ (assignEach es X.env).findIdx? (·.1) = none
  | [], [], _ => ⟨pgs_nil, rfl, rfl⟩
  | i :: is, .Name x p :: es, h => by
    simp only [tgB, Bool.and_eq_true, decide_eq_true_eq] at h
    obtain ⟨ih1, ih2, ih3⟩ := dg_names hnN hnd hsc hfn h.2
    refine ⟨pgs_cons (pg_name (i := i) (by rw [hnN]; exact hnd) (by rw [hnN]; exact h.1.1.1) (locB_loc h.1.1.2 hsc) (hfn x h.1.1.2)) ih1 rfl, ?_, ?_⟩
    · show (assignEach es X.env).length + 1 = is.length + 1
      rw [ih2]
    · show List.findIdx? _ ((false, assign (.Name x p) X.env) :: assignEach es X.env) = none
      rw [List.findIdx?_cons]
      simp [ih3]
  | [], e :: es, h => by cases e <;> cases h
  | i :: is, [], h => by cases h
theorem names_core {dp : Bool} : ∀ {is : List Nat} {es : List Expr} {F : List SF} {en : En} {own : Own} {σ : L2.St} {ds : List D} {vs : List V} {Q : L2.St → Hp → Prop}, tgB N sc F is es = true → Ok G c F en own σ H → RL G (Av c (ow own) dp) H ds vs → ds.length = is.length →
    (∀ σ' own', Ok G c (setF F (.s dp) is) (setAll en is ds) own' σ' H → (∀ a, ow own' a → ow own a) → Q σ' H) → gNames is vs σ H Q
  | [], [], F, en, own, σ, ds, vs, Q, _, ok, r, hl, q => by
    cases ds with
    | nil => exact ⟨r, q σ own ok fun _ h => h⟩
    | cons _ _ => cases hl
  | i :: is, .Name x p :: es, F, en, own, σ, ds, vs, Q, h, ok, r, hl, q => by
    cases ds with
    | nil => cases hl
    | cons d ds =>
      obtain ⟨v, t, e, r1, r2⟩ := r
      simp only [tgB, Bool.and_eq_true] at h
      obtain ⟨h1, h2⟩ := zB_of h.1.2
      obtain ⟨own2, ok2, sb⟩ := ok.put (f := .sh dp) h1 h2 r1 rfl
      exact ⟨v, t, e, names_core (tgB_set (f := .s dp) id h.2) ok2 (RL.up (Up.sub sb (by cases dp <;> rfl)) _ r2) (Nat.succ.inj hl) fun σ' own' ok' sb' => q σ' own' ok' fun a z => sb a (sb' a z)⟩
  | [], e :: es, _, _, _, _, _, _, _, h, _, _, _, _ => by cases e <;> cases h
  | i :: is, [], _, _, _, _, _, _, _, h, _, _, _, _ => by cases h
def sPar (i j : Nat) (a b : EvE) : EvS := fun en => bnd (a en) fun x => bnd (b en) fun y => .ok (.nx ((en.set i (some x)).set j (some y)))
theorem sw_par {a b : Expr} {x y : Str} {px py pt pt2 : Pos} {kt k2 : Nat} {env : Env} (hk : env.scope.kind = .function) (hx : env.scope.names.lookup x = some .local) (hy : env.scope.names.lookup y = some .local) (hxy : x ≠ y) (hl : py.line = px.line)
    (h1 : ([a, b].any fun | .Starred .. => true | _ => false) = false) (h2 : [a, b].all (foldedForSure 8) = false) (h3 : [a, b].all (constantsAlone 8) = false) :
    swappedStores [.Tuple [.Name x px, .Name y py] kt pt] (.Tuple [a, b] k2 pt2) env = pure (some [x, y]) := by
  have hb : env.blockKind = .function := by unfold Env.blockKind; rw [hk]; rfl
  have kx : env.kindOf x = some .local := hx
  have ky : env.kindOf y = some .local := hy
  have hne : ¬ y = x := fun e => hxy e.symm
  have hst : ∀ e : Expr, e ∈ [a, b] → (match e with | .Starred _ _ => true | _ => false) = false := fun e he => by
    have := List.any_eq_false.mp h1 e he
    revert this
    cases e <;> simp
  have sa := hst a (by simp)
  have sb := hst b (by simp)
  unfold swappedStores
  simp only [hb, h1, h2, h3]
  simp [kx, ky, hl, hne, List.eraseDups_cons, Expr.pos]
  rintro (hh | hh)
  · exfalso
    revert sa
    cases a <;> simp_all
  · exfalso
    revert sb
    cases b <;> simp_all
theorem ds_par (g : Gs G N sc k S.W X) (i j : Nat) {x y : Str} {a b : Expr} {px py pt pt2 pos : Pos} {kt k2 : Nat} {ea eb : EvE} (ha : PE X a (TEv G S.W F F1 f1 ea)) (hb : PE X b (TEv G S.W F1 F2 f2 eb)) (hN : N[i]? = some x := by rfl) (hN2 : N[j]? = some y := by rfl) (hij : i ≠ j := by decide)
    (hx : plainLocB sc x = true := by rfl) (hy : plainLocB sc y = true := by rfl) (hxy : x ≠ y := by decide) (hz : zB F2 i = true := by rfl) (hz2 : zB F2 j = true := by rfl) (hn1 : f1.nb = true := by rfl) (hn2 : f2.nb = true := by rfl) (hl : py.line = px.line := by rfl)
    (h1 : ([a, b].any fun | .Starred .. => true | _ => false) = false := by rfl) (h2 : [a, b].all (foldedForSure 8) = false := by rfl) (h3 : [a, b].all (constantsAlone 8) = false := by rfl) (hsa : starEach [a, b] X.env = [(false, eval a X.env), (false, eval b X.env)] := by rfl) (hsb : starEach [b] X.env = [(false, eval b X.env)] := by rfl)
    (hsw : swapsWithSole [.Tuple [.Name x px, .Name y py] kt pt] (.Tuple [a, b] k2 pt2) pos.line X.env = pure false := by rfl) :
    PS X (.Assign [.Tuple [.Name x px, .Name y py] kt pt] (.Tuple [a, b] k2 pt2) pos) (TSv G S F ((F2.set i (.s f1.dp)).set j (.s f2.dp)) (sPar i j ea eb)) := by
  have lx := plainLocB_loc hx g.g.sc
  have ly := plainLocB_loc hy g.g.sc
  refine ps_imp (ps_par g.g.calm (by rw [g.g.nN]; exact g.g.nd) (by rw [g.g.nN]; exact hN) (by rw [g.g.nN]; exact hN2) hij lx ly (pa_cons ha (pa_cons hb pa_nil hsb) (by rw [hsa, hsb])) (sw_par (by rw [g.g.sc]; exact g.kd) lx ly hxy hl h1 h2 h3) hsw) ?_
  rintro D σ H ⟨c, en, own, ok, m⟩
  refine ⟨c, en, own, ok, m.bnd.e.imp fun d1 _ q1 v1 H1 own1 ok1 s1 b1 r1 => ?_⟩
  obtain ⟨own1', ok1', k1, a1⟩ := r1.share ok1 hn1
  refine ⟨c, en, own1', ok1', q1.bnd.e.imp fun d2 _ q2 v2 H2 own2 ok2 s2 b2 r2 => ?_⟩
  obtain ⟨own2', ok2', k2', a2⟩ := r2.share ok2 hn2
  have a1' : R G (Av c (ow own2') f1.dp) H2 d1 v1 := R.up (Up.grow s2 (fun a z => b2 a (k2' a z)) (by cases f1.dp <;> rfl)) _ a1
  obtain ⟨z1, z2⟩ := zB_of hz
  obtain ⟨own3, ok3, k3⟩ := ok2'.put (f := .sh f1.dp) z1 z2 a1' rfl
  have hz3 : zB (F2.set i (VF.sh f1.dp).slot) j = true := zB_set id hz2
  obtain ⟨z3, z4⟩ := zB_of hz3
  obtain ⟨own4, ok4, _⟩ := ok3.put (f := .sh f2.dp) z3 z4 (R.up (Up.sub k3 (by cases f2.dp <;> rfl)) _ a2) rfl
  exact ⟨v1, v2, rfl, q2 _ H2 own4 ok4⟩
theorem Ok.ownR (ok : Ok G c F en own σ H) {i : Nat} {dp : Bool} {d : D} (hf : F[i]? = some (.o dp)) (he : en[i]? = some (some d)) : ∃ x, σ[i]? = some (some x) ∧ RO G (Av c (ow own) dp) H d x (own.sl i) := ok.get he hf (by simp)
theorem Ok.wr (ok : Ok G c F en own σ H) {i : Nat} {dp dp' : Bool} {p : Addr} {o o' : HO} {d' : D} (hf : F[i]? = some (.o dp)) (hp : own.sl i = [p]) (hH : H p = some o) (w : Wr o) (hσ : σ[i]? = some (some (.ref p)))
    (new : RO G (Av c (ow own) dp') (upd H p o') d' (.ref p) [p]) : Ok G c (F.set i (.o dp')) (en.set i (some d')) own σ (upd H p o') := by
  have hi : i < F.length := (List.getElem?_eq_some_iff.mp hf).1
  have hpi : p ∈ own.sl i := by rw [hp]; simp
  have hpo : ow own p := .inl ⟨i, hpi⟩
  have h0 : c.H0 p = none := (ok.nw i p hpi).2.resolve_right fun ⟨z, _⟩ => by rw [hf] at z; cases z
  have nn : ∀ {a}, H a ≠ none → upd H p o' a ≠ none := fun {a} h => by
    by_cases e : a = p
    · rw [e, upd_same]; simp
    · rw [upd_ne e]; exact h
  have nz : ∀ j, SF.zf F[j]? → SF.zf (F.set i (SF.o dp'))[j]? := fun j z1 => by
    have ne : i ≠ j := fun e => by rw [← e, hf] at z1; exact z1
    exact zf_set ne z1
  refine ⟨by simpa using ok.lF, by simpa using ok.lE, fun b x nb e => ?_, fun a h => nn (ok.tr a h), ok.dj, ok.dt, fun a h => ⟨nn (ok.nt a h).1, (ok.nt a h).2⟩, fun j a h => ⟨nn (ok.nw j a h).1, (ok.nw j a h).2.imp id fun ⟨z1, z2⟩ => ⟨nz j z1, z2⟩⟩, fun j => ?_, fun a x h => ?_⟩
  · have ne : b ≠ p := fun e' => by rw [e', h0] at e; cases e
    rw [upd_ne ne]
    exact ok.same b x nb e
  · by_cases e : j = i
    · subst e
      unfold Slt
      rw [List.getElem?_set_self hi, List.getElem?_set_self (by rw [ok.lE, ← ok.lF]; exact hi)]
      refine ⟨.ref p, hσ, ?_⟩
      rw [hp]
      exact new
    · have h := ok.sl j
      unfold Slt at h ⊢
      rw [List.getElem?_set_ne (fun z => e z.symm), List.getElem?_set_ne (fun z => e z.symm)]
      have na : ∀ b, ¬ Av c (ow own) b p := fun b z => z.1 hpo
      have pj : ∀ a x, a ∈ own.sl j → H a = some x → upd H p o' a = some x := fun a x ha hx => by
        rw [upd_ne (fun e' => e (ok.dj j i a ha (by rw [e']; exact hpi)))]
        exact hx
      split
      · rename_i dp' d hf' he; rw [hf', he] at h; obtain ⟨x, h1, h2⟩ := h; exact ⟨x, h1, R.up (Up.write hH w (na _)) _ h2⟩
      · rename_i dp' d hf' he; rw [hf', he] at h; obtain ⟨x, h1, h2⟩ := h; exact ⟨x, h1, RO.up h2 (Up.write hH w (na _)) pj⟩
      · rename_i d hf' he; rw [hf', he] at h; obtain ⟨x, h1, h2, h3⟩ := h; exact ⟨x, h1, RO.up h2 (Up.write hH w (na _)) pj, h3⟩
      · rename_i hf'; rw [hf'] at h; simpa using h
      · rename_i sh d hf' he; rw [hf', he] at h; obtain ⟨x, h1, h2, h3⟩ := h; exact ⟨x, h1, RS.up (Up.write hH w (na _)) _ h2 pj, h3⟩
      · rename_i sh d hf' he; rw [hf', he] at h; obtain ⟨x, h1, h2, h3⟩ := h; exact ⟨x, h1, RS.up (Up.write hH w (na _)) _ h2 pj, h3⟩
      · trivial
  · obtain ⟨q1, q2⟩ := ok.lk a x h
    have ne : a ≠ p := fun e => by
      subst e
      rw [hH] at q1
      cases q1
      rcases q2 with q2 | q2
      · cases o <;> first | exact w.elim | exact q2.elim
      · exact q2 hpo
    exact ⟨by rw [upd_ne ne]; exact q1, q2⟩
def getL (i : Nat) (en : En) : Rs (List D) := match en[i]? with
  | some (some (.lst l)) => .ok l
  | _ => .error .stuck
def sApp (i : Nat) (ev : EvE) : EvS := fun en => bnd (getL i en) fun l => bnd (ev en) fun d => if l.length < sizeLine then .ok (.nx (en.set i (some (.lst (l ++ [d]))))) else .error .stuck
theorem getL_ok {i : Nat} {q : List D → Prop} (h : MtS G W c (getL i en) q) : ∃ l, en[i]? = some (some (.lst l)) ∧ q l := by
  unfold getL at h
  split at h
  · rename_i l e; exact ⟨l, e, h⟩
  · exact h.elim
theorem Ok.ownL (ok : Ok G c F en own σ H) {i : Nat} {dp : Bool} {l : List D} (hf : F[i]? = some (.o dp)) (he : en[i]? = some (some (.lst l))) : ∃ p xs, σ[i]? = some (some (.ref p)) ∧ own.sl i = [p] ∧ H p = some (.lst xs) ∧ RL G (Av c (ow own) dp) H l xs := by
  obtain ⟨x, h1, p, xs, e, eo, h2, h3⟩ := ok.ownR hf he
  exact ⟨p, xs, by rw [h1, e], eo, h2, h3⟩
theorem Ok.wrL (ok : Ok G c F en own σ H) {i : Nat} {dp dp' : Bool} {p : Addr} {xs ys : List V} {m : List D} (hf : F[i]? = some (.o dp)) (hp : own.sl i = [p]) (hH : H p = some (.lst xs)) (hσ : σ[i]? = some (some (.ref p)))
    (r : RL G (Av c (ow own) dp') H m ys) : Ok G c (F.set i (.o dp')) (en.set i (some (.lst m))) own σ (upd H p (.lst ys)) :=
  ok.wr hf hp hH trivial hσ ⟨p, ys, rfl, rfl, upd_same, RL.up (Up.write hH trivial fun z => z.1 (.inl ⟨i, by rw [hp]; simp⟩)) _ r⟩
theorem sig_inj {σ : L2.St} {i : Nat} {p q : Addr} (h : σ[i]? = some (some (.ref p))) (h' : σ[i]? = some (some (.ref q))) : p = q := by
  rw [h] at h'
  cases h'
  rfl
theorem ds_app (g : Gv G N sc X) (i : Nat) {x : Str} {e : Expr} {px apos cpos pos : Pos} {ev : EvE} {dp0 dp : Bool} (he : PE X e (TEv G S.W F F1 f ev)) (hN : N[i]? = some x := by rfl) (hv : visB sc x = true := by rfl) (hx : nameB x = true := by rfl) (hf0 : F[i]? = some (.o dp0) := by rfl) (hf : F1[i]? = some (.o dp) := by rfl) (hn : f.nb = true := by rfl)
    (hs : starEach [e] X.env = [(false, eval e X.env)] := by rfl) (hline : (apos.endLine == cpos.line) = true := by rfl) :
    PS X (.Expr (.Call (.Attribute (.Name x px) "append" apos) [e] [] cpos) pos) (TSv G S F (F1.set i (.o (dp && f.dp))) (sApp i ev)) := by
  obtain ⟨h1, h2, _⟩ := nameB_d hx
  refine ps_imp (ps_expr (pe_bm PySem.F.plainAttrs_list PySem.F.slot_list_append PySem.F.type_list_append mt_append (pe_var (i := i) (by rw [g.nN]; exact hN) (visB_vis hv g.sc) h1 h2) (pa_cons he pa_nil hs) rfl (by rw [hs]; rfl) hline hs rfl) rfl) ?_
  rintro D σ H ⟨c, en, own, ok, m⟩
  obtain ⟨l, hl, m⟩ := getL_ok m.bnd
  obtain ⟨p, xs, e1, e2, e3, e4⟩ := ok.ownL hf0 hl
  refine ⟨.ref p, e1, .inl ⟨rfl, xs, SqL.of e3⟩, c, en, own, ok, m.bnd.e.imp fun d _ q v H1 own1 ok1 s1 b1 r1 => ?_⟩
  obtain ⟨own1', ok1', k1, a1⟩ := r1.share ok1 hn
  obtain ⟨p', xs', e1', e2', e3', e4'⟩ := ok1'.ownL hf hl
  have ep := sig_inj e1 e1'
  subst ep
  split at q
  · rename_i hlen
    refine ⟨p, xs', v, rfl, rfl, e3', by rw [e4'.len]; exact hlen, q σ _ own1' (ok1'.wrL (dp' := dp && f.dp) hf e2' e3' e1' (RL.app ?_ (RL.cons ?_ RL.nil)))⟩
    · exact RL.up (Up.sub (fun _ h => h) (by cases dp <;> cases f.dp <;> rfl)) _ e4'
    · exact R.up (Up.sub (fun _ h => h) (by cases dp <;> cases f.dp <;> rfl)) _ a1
  · exact q.elim
def sSub (i : Nat) (ek ev : EvE) : EvS := fun en => bnd (getL i en) fun l => bnd (ev en) fun d => bnd (ek en) fun kd => match kd with
  | .int j => match ixN l.length j with
    | some n => .ok (.nx (en.set i (some (.lst (l.set n d)))))
    | none => .error .stuck
  | _ => .error .stuck
theorem ds_sub (g : Gv G N sc X) (i : Nat) {x : Str} {e ix : Expr} {px spos pos : Pos} {ek ev : EvE} {dp0 dp : Bool} (he : PE X e (TEv G S.W F F1 f ev)) (hi : PE X ix (TEv G S.W F1 F2 f2 ek)) (hN : N[i]? = some x := by rfl) (hv : visB sc x = true := by rfl) (hx : nameB x = true := by rfl) (hf0 : F1[i]? = some (.o dp0) := by rfl) (hf : F2[i]? = some (.o dp) := by rfl) (hn : f.nb = true := by rfl)
    (hs : swapsWithSole [.Subscript (.Name x px) ix spos] e pos.line X.env = pure false := by rfl) (hw : swappedStores [.Subscript (.Name x px) ix spos] e X.env = pure none := by rfl)
    (ha : ∀ v, assign (.Subscript (.Name x px) ix spos) X.env v = (do
      let ov ← holding [v] (eval (.Name x px) X.env)
      let iv ← holding [v, ov] (eval ix X.env)
      standAt spos
      holding [v, ov, iv] (setItem ov iv v)
      release [v, ov, iv] []) := by intro _; rfl) :
    PS X (.Assign [.Subscript (.Name x px) ix spos] e pos) (TSv G S F (F2.set i (.o (dp && f.dp))) (sSub i ek ev)) := by
  obtain ⟨h1, h2, _⟩ := nameB_d hx
  refine ps_imp (ps_asg he (pg_sub (pe_var (i := i) (by rw [g.nN]; exact hN) (visB_vis hv g.sc) h1 h2) hi set_list ha) hs hw rfl) ?_
  rintro D σ H ⟨c, en, own, ok, m⟩
  obtain ⟨l, hl, m⟩ := getL_ok m.bnd
  refine ⟨c, en, own, ok, m.bnd.e.imp fun d _ q v H1 own1 ok1 s1 b1 r1 => ?_⟩
  obtain ⟨own1', ok1', k1, a1⟩ := r1.share ok1 hn
  obtain ⟨p, xs, e1, e2, e3, e4⟩ := ok1'.ownL hf0 hl
  refine ⟨.ref p, e1, c, en, own1', ok1', q.bnd.e.imp fun kd hkd q v2 H2 own2 ok2 s2 b2 r2 => ?_⟩
  obtain ⟨p', xs', e1', e2', e3', e4'⟩ := ok2.ownL hf hl
  have ep := sig_inj e1 e1'
  subst ep
  clear hkd
  cases kd <;> first | exact q.elim | skip
  rename_i j
  dsimp only at q
  split at q
  · rename_i n hj
    refine ⟨p, xs', j, n, rfl, r2.int, e3', by rw [e4'.len]; exact hj, q σ _ own2 (ok2.wrL (dp' := dp && f.dp) hf e2' e3' e1' (RL.set n ?_ ?_))⟩
    · exact RL.up (Up.sub (fun _ h => h) (by cases dp <;> cases f.dp <;> rfl)) _ e4'
    · exact R.up (Up.grow s2 b2 (by cases dp <;> cases f.dp <;> rfl)) _ a1
  · exact q.elim
end
end Pi
namespace Pi
open PySem PySem.Spec PyProof.Rows L2
open Classical in
noncomputable def Fr.pin (c : Fr) (own : Own) (H : Hp) : Fr := { c with L := fun b => match H b with
  | some o => if Im o ∨ ¬ ow own b then some o else none
  | none => none }
section
variable {G : Gb} {S : Se} {W : WX} {N : List Str} {sc : Scope} {k : Nat} {X : Cx} {F F1 F2 F3 Fh : List SF} {Fo : List SF} {f f1 f2 : VF} {c : Fr} {en : En} {own own0 : Own} {σ : L2.St} {H H' H0 : Hp}
theorem pin_at {a : Addr} {o : HO} (h : (c.pin own H).L a = some o) : H a = some o ∧ (Im o ∨ ¬ ow own a) := by
  unfold Fr.pin at h
  dsimp only at h
  split at h
  · rename_i o' e
    split at h
    · rename_i q
      cases h
      exact ⟨e, q⟩
    · cases h
  · cases h
theorem pin_of {a : Addr} {o : HO} (e : H a = some o) (q : Im o ∨ ¬ ow own a) : (c.pin own H).L a = some o := by
  unfold Fr.pin
  dsimp only
  rw [e]
  exact if_pos q
theorem Ok.fr {c' : Fr} (ok : Ok G c F en own σ H) (h0 : c'.H0 = c.H0) (hA : c'.A0 = c.A0) (hS : c'.S = c.S) (hv : c'.vl = c.vl) (hl : ∀ a o, c'.L a = some o → H a = some o ∧ (Im o ∨ ¬ ow own a)) : Ok G c' F en own σ H := by
  obtain ⟨H0, A0, S, L, vl⟩ := c
  obtain ⟨H0', A0', S', L', vl'⟩ := c'
  dsimp only at h0 hA hS hv
  subst h0 hA hS hv
  exact ⟨ok.lF, ok.lE, ok.same, ok.tr, ok.dj, ok.dt, ok.nt, ok.nw, ok.sl, hl⟩
theorem Ok.pin (ok : Ok G c F en own σ H) : Ok G (c.pin own H) F en own σ H := ok.fr rfl rfl rfl rfl fun _ _ h => pin_at h
theorem Ok.unpin (ok : Ok G (c.pin own0 H0) F en own σ H) (h : ∀ a o, c.L a = some o → H0 a = some o ∧ (Im o ∨ ¬ ow own0 a)) : Ok G c F en own σ H :=
  ok.fr rfl rfl rfl rfl fun a o e => ok.lk a o (pin_of (h a o e).1 (h a o e).2)
theorem Up.pin {dp : Bool} (ok : Ok G (c.pin own0 H0) F en own σ H) : Up G.K (Av c (ow own0) dp) (Av c (ow own) dp) H0 H := by
  have m : ∀ {a o}, Av c (ow own0) dp a → H0 a = some o → ¬ Im o → Av c (ow own) dp a ∧ H a = some o := fun {a o} h e n => by
    obtain ⟨q1, q2⟩ := ok.lk a o (pin_of e (.inr h.1))
    exact ⟨⟨q2.resolve_left n, h.2.1, h.2.2⟩, q1⟩
  have t : ∀ {a o}, H0 a = some o → Im o → H a = some o := fun {a o} e n => (ok.lk a o (pin_of e (.inl n))).1
  refine ⟨fun a xs h e => m h e id, fun a kvs h e => ?_, fun a C dx fs h e => m h e id, fun a xs e => ?_, fun a xs e => e.imp (fun ⟨o, e⟩ => ⟨o, t e trivial⟩) id⟩
  · rcases e with e | ⟨o, e⟩
    · obtain ⟨q1, q2⟩ := m h e id
      exact ⟨q1, .inl q2⟩
    · obtain ⟨q1, q2⟩ := m h e id
      exact ⟨q1, .inr ⟨o, q2⟩⟩
  · rcases e with e | ⟨o, e⟩
    · exact .inl (t e trivial)
    · exact .inr ⟨o, t e trivial⟩
structure ItS (G : Gb) (c : Fr) (J : It) (dp : Bool) (ds : List D) : Prop where
  go : ∀ {F en own σ H i d}, Ok G c F en own σ H → ds[i]? = some d → J.go i H ∧ ∀ x H', J.yld i H x H' → Same H H' ∧ R G (Av c (ow own) dp) H' d x
  stop : ∀ {F en own σ H}, Ok G c F en own σ H → J.stop ds.length H
abbrev EvI := En → Rs (List D)
def TIv (G : Gb) (W : WX) (F F' : List SF) (dp : Bool) (ev : EvI) : TI := fun σ H R => ∃ (c : Fr) (en : En) (own : Own), Ok G c F en own σ H ∧
  Mt G W c σ (ev en) fun ds => ∀ J H' own', Ok G c F' en own' σ H' → Same H H' → Sub (ow own) (ow own') H → ItS G (c.pin own' H') J dp ds → R J H'
theorem pi_imp {X : Cx} {tg e : Expr} {t t' : TI} (h : PI X tg e t) (m : ∀ σ H Q, t' σ H Q → t σ H Q) : PI X tg e t' := ⟨fun pins s σ H Q I q => h.run pins s σ H Q I (m σ H Q q)⟩
def itemsL : D → Option (List D)
  | .lst l => some l
  | .scr l => some (l.map .int)
  | _ => none
def itemsT : D → Option (List D)
  | .tup l => some l
  | _ => none
def iL (ev : EvE) : EvI := fun en => bnd (ev en) fun d => ofO (itemsL d)
def iT (ev : EvE) : EvI := fun en => bnd (ev en) fun d => ofO (itemsT d)
theorem scr_at {l : List Int} {i : Nat} {d : D} (h : (l.map D.int)[i]? = some d) : ∃ z, d = .int z ∧ (l.map V.int)[i]? = some (.int z) := by
  rw [List.getElem?_map] at h ⊢
  cases q : l[i]? with
  | none => rw [q] at h; cases h
  | some z => rw [q] at h; cases h; exact ⟨z, rfl, rfl⟩
theorem its_list {dp : Bool} {d : D} {ds : List D} {a : Addr} (h : R G (Av c (ow own0) dp) H0 d (.ref a)) (e : itemsL d = some ds) : (∃ xs, SqL G.K H0 a xs) ∧ ItS G (c.pin own0 H0) (Itl G.K a) dp ds := by
  cases d <;> first | (cases e; done) | skip
  · rename_i l
    obtain rfl := Option.some.inj e
    clear e
    refine ⟨by obtain ⟨a', xs, e, _, h1, _⟩ := h; cases e; exact ⟨xs, SqL.of h1⟩, fun {F en own σ H i d} ok hd => ?_, fun {F en own σ H} ok => ?_⟩
    · obtain ⟨a', xs, e, _, h1, r⟩ := R.up (Up.pin ok) _ h
      cases e
      obtain ⟨x, hx, rx⟩ := r.get hd
      refine ⟨⟨xs, x, SqL.of h1, hx⟩, fun y H' z => ?_⟩
      obtain ⟨rfl, z⟩ := z
      have := z xs (SqL.of h1)
      rw [hx] at this
      cases this
      exact ⟨Same.refl _, rx⟩
    · obtain ⟨a', xs, e, _, h1, r⟩ := R.up (Up.pin ok) _ h
      cases e
      exact ⟨xs, SqL.of h1, by rw [r.len]; exact Nat.le_refl _⟩
  · rename_i l
    obtain rfl := Option.some.inj e
    clear e
    refine ⟨by obtain ⟨a', e, h1⟩ := h; cases e; exact ⟨_, h1.sq⟩, fun {F en own σ H i d} ok hd => ?_, fun {F en own σ H} ok => ?_⟩
    · obtain ⟨a', e, h1⟩ := R.up (Up.pin ok) _ h
      cases e
      obtain ⟨z0, rfl, hz⟩ := scr_at hd
      refine ⟨⟨_, _, h1.sq, hz⟩, fun y H' z => ?_⟩
      obtain ⟨rfl, z⟩ := z
      have := z _ h1.sq
      rw [hz] at this
      cases this
      exact ⟨Same.refl _, rfl⟩
    · obtain ⟨a', e, h1⟩ := R.up (Up.pin ok) _ h
      cases e
      exact ⟨_, h1.sq, by simp⟩
theorem itemsL_ref {A : Addr → Prop} {d : D} {ds : List D} {v : V} (h : R G A H d v) (e : itemsL d = some ds) : ∃ a, v = .ref a := by
  cases d <;> first | cases e | skip
  · obtain ⟨a, _, e, _⟩ := h; exact ⟨a, e⟩
  · obtain ⟨a, e, _⟩ := h; exact ⟨a, e⟩
theorem di_list (g : Gd G N sc k W X) {tg e : Expr} {ev : EvE} (he : PE X e (TEv G W F F1 f ev)) (hn : f.nb = true := by rfl) : PI X tg e (TIv G W F F1 f.dp (iL ev)) := by
  refine pi_imp (pi_list he) ?_
  rw [g.K]
  rintro σ H Q ⟨c, en, own, ok, m⟩
  refine ⟨c, en, own, ok, m.bnd.imp fun d hd0 q v H1 own1 ok1 s1 b1 r1 => ?_⟩
  clear hd0
  obtain ⟨ds, ed, q⟩ := q.ofO
  obtain ⟨own2, ok2, sb, r2⟩ := r1.share ok1 hn
  obtain ⟨a, rfl⟩ := itemsL_ref r2 ed
  obtain ⟨h1, h2⟩ := its_list r2 ed
  exact ⟨a, rfl, h1, q _ H1 own2 ok2 s1 (fun a z => b1 a (sb a z)) h2⟩
theorem di_tup (g : Gd G N sc k W X) {tg e : Expr} {ev : EvE} (he : PE X e (TEv G W F F1 f ev)) (hn : f.nb = true := by rfl) : PI X tg e (TIv G W F F1 f.dp (iT ev)) := by
  refine pi_imp (pi_tup he) ?_
  rw [g.K]
  rintro σ H Q ⟨c, en, own, ok, m⟩
  refine ⟨c, en, own, ok, m.bnd.imp fun d hd0 q v H1 own1 ok1 s1 b1 r1 => ?_⟩
  clear hd0
  obtain ⟨ds, ed, q⟩ := q.ofO
  obtain ⟨own2, ok2, sb, r2⟩ := r1.share ok1 hn
  cases d <;> first | cases ed | skip
  obtain ⟨a, xs, e, h1, r⟩ := id r2
  subst e
  refine ⟨a, rfl, ⟨xs, h1⟩, q _ H1 own2 ok2 s1 (fun a z => b1 a (sb a z)) ⟨fun {F en own σ H i d} ok hd => ?_, fun {F en own σ H} ok => ?_⟩⟩
  · obtain ⟨a', xs, e, h1, r⟩ := R.up (Up.pin ok) _ r2
    cases e
    obtain ⟨x, hx, rx⟩ := r.get hd
    refine ⟨⟨xs, x, h1, hx⟩, fun y H' z => ?_⟩
    obtain ⟨rfl, z⟩ := z
    have := z xs h1
    rw [hx] at this
    cases this
    exact ⟨Same.refl _, rx⟩
  · obtain ⟨a', xs, e, h1, r⟩ := R.up (Up.pin ok) _ r2
    cases e
    exact ⟨xs, h1, by rw [r.len]; exact Nat.le_refl _⟩
def irng (lo : Int) (n : Nat) : List D := (List.range n).map fun i : Nat => .int (lo + i)
def bd62 (i : Int) : Bool := decide (-(2 ^ 62) ≤ i) && decide (i < 2 ^ 62)
theorem bd62_of {i : Int} (h : bd62 i = true) : -(2 ^ 62) ≤ i ∧ i < 2 ^ 62 := by simpa [bd62] using h
theorem its_rng {lo : Int} {n : Nat} {dp : Bool} : ItS G c (Itr lo n) dp (irng lo n) := by
  refine ⟨fun {F en own σ H i d} ok hd => ?_, fun {F en own σ H} ok => ?_⟩
  · unfold irng at hd
    rw [List.getElem?_map] at hd
    by_cases hi : i < n
    · rw [List.getElem?_range hi] at hd
      cases hd
      exact ⟨hi, fun x H' z => by obtain ⟨rfl, rfl⟩ := z; exact ⟨Same.refl _, rfl⟩⟩
    · rw [List.getElem?_eq_none (by simpa using hi)] at hd
      cases hd
  · show n ≤ _
    simp [irng]
def oRng : List D → Option (List D)
  | [.int j] => if bd62 j = true then some (irng 0 j.toNat) else none
  | [.int i, .int j] => if bd62 i = true ∧ bd62 j = true then some (irng i (j - i).toNat) else none
  | _ => none
def iRn (ea : En → Rs (List D)) : EvI := fun en => bnd (ea en) fun ds => ofO (oRng ds)
theorem di_range1 (g : Gd G N sc k W X) {tg a : Expr} {p pos : Pos} {ea : En → Rs (List D)} (hm : G.mg "range" = none) (ha : PA X [a] (TAv G W F F1 [f] ea)) (hg : glbB sc "range" = true := by rfl) (hs : starEach [a] X.env = [(false, eval a X.env)] := by rfl) :
    PI X tg (.Call (.Name "range" p) [a] [] pos) (TIv G W F F1 true (iRn ea)) := by
  refine pi_imp (pi_range1 (glbB_gl hg g.sc) (by rw [g.mg]; exact hm) ha hs) ?_
  rintro σ H Q ⟨c, en, own, ok, m⟩
  refine ⟨c, en, own, ok, m.bnd.imp fun ds hd0 q vs H1 own1 ok1 s1 b1 r1 => ?_⟩
  clear hd0
  obtain ⟨its, e, q⟩ := q.ofO
  obtain ⟨d, r, v, t, rfl, rfl, h1, h2⟩ := r1
  obtain ⟨rfl, rfl⟩ := h2
  cases d <;> first | (cases e; done) | skip
  rename_i j
  simp only [oRng] at e
  split at e
  · rename_i hb
    obtain rfl := Option.some.inj e
    obtain ⟨z1, z2⟩ := bd62_of hb
    exact ⟨j, by rw [show v = .int j from h1.b], z1, z2, q _ H1 own1 ok1 s1 b1 its_rng⟩
  · cases e
def signs (x : Str) : List D := x.cps.toList.map fun c => .str ⟨#[c]⟩
structure TgO (G : Gb) (X : Cx) (tg : Expr) (gg : TG) (F F2 : List SF) (dp : Bool) (is : List Nat) (set : En → D → Option En) : Prop where
  pg : PG X tg gg
  ok : ∀ {c en own σ H d v en' Q}, Ok G c F en own σ H → R G (Av c (ow own) dp) H d v → set en d = some en' → (∀ σ' own', Ok G c F2 en' own' σ' H → (∀ a, ow own' a → ow own a) → (σ'.length = σ.length ∧ ∀ j, j ∉ is → σ'[j]? = σ[j]?) → Q σ' H) → gg v σ H Q
def set1 (i : Nat) (en : En) (d : D) : Option En := some (en.set i (some d))
def setT (is : List Nat) (en : En) : D → Option En
  | .tup ds => if ds.length = is.length then some (setAll en is ds) else none
  | _ => none
theorem tg_name (g : Gv G N sc X) (hfn : ∀ x, X.fn x = true) (i : Nat) {x : Str} {pos : Pos} {dp : Bool} (hN : N[i]? = some x := by rfl) (hx : locB sc x = true := by rfl) (hz : zB F i = true := by rfl) : TgO G X (.Name x pos) (gName i) F (F.set i (.s dp)) dp [i] (set1 i) := by
  refine ⟨pg_name (by rw [g.nN]; exact g.nd) (by rw [g.nN]; exact hN) (locB_loc hx g.sc) (.inl (hfn x)), fun {c en own σ H d v en' Q} ok r e q => ?_⟩
  cases e
  obtain ⟨h1, h2⟩ := zB_of hz
  obtain ⟨own2, ok2, sb⟩ := ok.put (f := .sh dp) h1 h2 r rfl
  exact q _ own2 ok2 sb ⟨by simp, fun j hj => List.getElem?_set_ne (fun e => hj (by simp [e]))⟩
theorem tg_nameB (g : Gv G N sc X) (i : Nat) {x : Str} {pos : Pos} {dp : Bool} (hN : N[i]? = some x := by rfl) (hx : plainLocB sc x = true := by rfl) (hz : zB F i = true := by rfl) : TgO G X (.Name x pos) (gName i) F (F.set i (.s dp)) dp [i] (set1 i) := by
  refine ⟨pg_name (by rw [g.nN]; exact g.nd) (by rw [g.nN]; exact hN) (.inl (plainLocB_loc hx g.sc)) (.inr (plainLocB_loc hx g.sc)), fun {c en own σ H d v en' Q} ok r e q => ?_⟩
  cases e
  obtain ⟨h1, h2⟩ := zB_of hz
  obtain ⟨own2, ok2, sb⟩ := ok.put (f := .sh dp) h1 h2 r rfl
  exact q _ own2 ok2 sb ⟨by simp, fun j hj => List.getElem?_set_ne (fun e => hj (by simp [e]))⟩
theorem names_core2 {dp : Bool} : ∀ {is : List Nat} {es : List Expr} {F : List SF} {en : En} {own : Own} {σ : L2.St} {ds : List D} {vs : List V} {Q : L2.St → Hp → Prop}, tgB N sc F is es = true → Ok G c F en own σ H → RL G (Av c (ow own) dp) H ds vs → ds.length = is.length →
    (∀ σ' own', Ok G c (setF F (.s dp) is) (setAll en is ds) own' σ' H → (∀ a, ow own' a → ow own a) → (σ'.length = σ.length ∧ ∀ j, j ∉ is → σ'[j]? = σ[j]?) → Q σ' H) → gNames is vs σ H Q
  | [], [], F, en, own, σ, ds, vs, Q, _, ok, r, hl, q => by
    cases ds with
    | nil => exact ⟨r, q σ own ok (fun _ h => h) ⟨rfl, fun _ _ => rfl⟩⟩
    | cons _ _ => cases hl
  | i :: is, .Name x p :: es, F, en, own, σ, ds, vs, Q, h, ok, r, hl, q => by
    cases ds with
    | nil => cases hl
    | cons d ds =>
      obtain ⟨v, t, e, r1, r2⟩ := r
      simp only [tgB, Bool.and_eq_true] at h
      obtain ⟨h1, h2⟩ := zB_of h.1.2
      obtain ⟨own2, ok2, sb⟩ := ok.put (f := .sh dp) h1 h2 r1 rfl
      exact ⟨v, t, e, names_core2 (tgB_set (f := .s dp) id h.2) ok2 (RL.up (Up.sub sb (by cases dp <;> rfl)) _ r2) (Nat.succ.inj hl) fun σ' own' ok' sb' z => q σ' own' ok' (fun a z => sb a (sb' a z)) ⟨by rw [z.1]; simp, fun j hj => by
        rw [z.2 j (fun h => hj (List.mem_cons_of_mem _ h))]
        exact List.getElem?_set_ne (fun e => hj (by simp [e]))⟩⟩
  | [], e :: es, _, _, _, _, _, _, _, h, _, _, _, _ => by cases e <;> cases h
  | i :: is, [], _, _, _, _, _, _, _, h, _, _, _, _ => by cases h
theorem tg_tup (g : Gd G N sc k W X) (hfn : ∀ x, X.fn x = true) (is : List Nat) {es : List Expr} {n : Nat} {tp : Pos} {dp : Bool} (ht : tgB N sc F is es = true := by rfl) : TgO G X (.Tuple es n tp) (gTup G.K is.length (gNames is)) F (setF F (.s dp) is) dp is (setT is) := by
  obtain ⟨h1, h2, h3⟩ := dg_names g.nN g.nd g.sc (fun x _ => .inl (hfn x)) ht
  refine ⟨by rw [← g.K]; exact pg_tup (n := is.length) g.calm h1 h2 h3, fun {c en own σ H d v en' Q} ok r e q => ?_⟩
  cases d <;> first | (cases e; done) | skip
  rename_i ds
  simp only [setT] at e
  split at e
  · rename_i hl
    cases e
    obtain ⟨a, xs, rfl, hq, rl⟩ := r
    exact ⟨a, xs, rfl, hq, by rw [rl.len]; exact hl, names_core2 ht ok rl hl q⟩
  · cases e
def evFor (set : En → D → Option En) (b : EvS) : List D → En → Rs Fl
  | [], en => .ok (.nx en)
  | d :: ds, en => bnd (ofO (set en d)) fun en1 => bnd (b en1) fun fl => match fl with
    | .nx en2 => evFor set b ds en2
    | .ct en2 => evFor set b ds en2
    | .rt v => .ok (.rt v)
def sFor (ev : EvI) (set : En → D → Option En) (b : EvS) : EvS := fun en => bnd (ev en) fun ds => evFor set b ds en
theorem ds_for (g : Gs G N sc k S.W X) {tg iter : Expr} {body : List Stmt} {pos : Pos} {gg : TG} {dp : Bool} {evI : EvI} {set : En → D → Option En} {eb : EvS} (hi : PI X tg iter (TIv G S.W F F1 dp evI)) {is : List Nat} (ht : TgO G X tg gg Fh F2 dp is set) (hb : PSs X body (TSv G { S with Fc := Fh } F2 Fh eb)) (hw : wkL F1 Fh = true := by rfl)
    (hs : ∀ x, foldedSetIterable iter X.env x = pure x := by intro _; rfl) : PS X (.For tg iter body [] pos) (TSv G S F Fh (sFor evI set eb)) := by
  refine ps_imp (ps_for g.g.po g.g.calm hi ht.pg hb hs) ?_
  rintro D σ H ⟨c, en, own, ok, m⟩
  refine ⟨c, en, own, ok, m.bnd.e.imp fun ds _ q J H1 own1 ok1 s1 b1 its => ?_⟩
  have hlk := ok1.lk
  have okp := ok1.pin
  obtain ⟨own2, ok2, sb, _⟩ := okp.weak hw
  refine ⟨fun i m σ H => m = ds.length - i ∧ i ≤ ds.length ∧ ∃ en own, Ok G (c.pin own1 H1) Fh en own σ H ∧ MtS G S.W c (evFor set eb (ds.drop i) en) (Aft G S c Fh D), ⟨_, rfl, Nat.zero_le _, en, own2, ok2, q⟩, ?_⟩
  rintro i m σ H ⟨rfl, hi, en, own, ok, q⟩
  by_cases hlt : i < ds.length
  · have hd : ds[i]? = some ds[i] := List.getElem?_eq_getElem hlt
    obtain ⟨hgo, hy⟩ := its.go ok hd
    rw [List.drop_eq_getElem_cons hlt] at q
    obtain ⟨en1, e1, q⟩ := MtS.ofO (MtS.bnd q)
    refine .inr ⟨hgo, fun σ' H' => ∃ en own, Ok G (c.pin own1 H1) Fh en own σ' H' ∧ MtS G S.W c (evFor set eb (ds.drop (i + 1)) en) (Aft G S c Fh D), fun σ' H' q' => ⟨_, by omega, rfl, hlt, q'⟩, fun x H' y => ?_⟩
    obtain ⟨sm, r⟩ := hy x H' y
    refine ht.ok (ok.grow sm) r e1 fun σ2 own2 ok2 _ _ => ⟨c.pin own1 H1, en1, own2, ok2, (MtS.bnd q).imp fun fl _ q => ?_⟩
    cases fl with
    | nx en2 => exact fun σ' H' own' ok' => ⟨en2, own', ok', q⟩
    | ct en2 => exact fun σ' H' own' ok' => ⟨en2, own', ok', q⟩
    | rt v => exact fun v' H' sm lkk rr => q v' H' sm (fun a o e => lkk a o (pin_of (hlk a o e).1 (hlk a o e).2)) rr
  · have e : i = ds.length := by omega
    subst e
    rw [List.drop_length] at q
    exact .inl ⟨its.stop ok, q σ H own (ok.unpin hlk)⟩
end
end Pi
namespace Pi
open PySem PySem.Spec PyProof.Rows L2
def F0 (n m : Nat) : List SF := List.replicate n (.s false) ++ List.replicate m .n
def endR : Rs Fl → Rs D
  | .ok (.nx _) => .ok .non
  | .ok (.rt d) => .ok d
  | .ok (.ct _) => .error .stuck
  | .error e => .error e
def runF (m : Nat) (st : EvS) (ds : List D) : Rs D := endR (st (ds.map some ++ List.replicate m none))
def Fr.new (H : Hp) (A0 : Addr → Prop) : Fr := ⟨H, A0, fun _ => False, fun _ => none, fun _ => none⟩
def Own.new : Own := ⟨fun _ => [], fun _ => False⟩
section
variable {G : Gb} {H : Hp} {A0 : Addr → Prop}
theorem start_ok {n m : Nat} {N : List Str} {ds : List D} {vs : List V} (hN : N.length = n + m) (hv : vs.length = n) (r : RL G A0 H ds vs) : Ok G (Fr.new H A0) (F0 n m) (ds.map some ++ List.replicate m none) Own.new (L2.start N vs) H := by
  have hd : ds.length = n := by rw [← r.len]; exact hv
  have now : ∀ a, ¬ ow Own.new a := fun a h => by
    rcases h with ⟨i, h⟩ | h
    · cases h
    · exact h
  have hl : (L2.start N vs).length = n + m := by
    unfold L2.start
    rw [List.length_append, List.length_map, List.length_replicate, hN, hv]
    omega
  refine { lF := by rw [hl]; simp [F0], lE := by rw [hl]; simp [hd], same := fun b o _ e => e, tr := fun a h => False.elim h, dj := fun i j a h _ => (nomatch h), dt := fun i a h => (nomatch h), nt := fun a h => False.elim h, nw := fun i a h => (nomatch h), sl := fun i => ?_, lk := fun a o h => (nomatch h) }
  unfold Slt
  by_cases hi : i < n
  · have e1 : (F0 n m)[i]? = some (.s false) := by
      unfold F0
      rw [List.getElem?_append_left (by simpa using hi), List.getElem?_replicate, if_pos hi]
    obtain ⟨d, hd'⟩ : ∃ d, ds[i]? = some d := ⟨ds[i]'(by omega), List.getElem?_eq_getElem (by omega)⟩
    obtain ⟨x, hx, rx⟩ := r.get hd'
    have e2 : (ds.map some ++ List.replicate m none)[i]? = some (some d) := by
      rw [List.getElem?_append_left (by simp; omega), List.getElem?_map, hd']
      rfl
    rw [e1, e2]
    refine ⟨x, ?_, R.up (Up.same (Same.refl H) fun a h => ⟨now a, fun z => (nomatch z), .inr h⟩) _ rx⟩
    unfold L2.start
    rw [List.getElem?_append_left (by simp; omega), List.getElem?_map, hx]
    rfl
  · have e1 : (F0 n m)[i]? = some .n ∨ (F0 n m)[i]? = none := by
      unfold F0
      rw [List.getElem?_append_right (by simp; omega), List.getElem?_replicate]
      split
      · exact .inl rfl
      · exact .inr rfl
    rcases e1 with e | e <;> rw [e] <;> simp
theorem gs_of {N : List Str} {sc : Scope} {k : Nat} {qual : Str} {f : Addr} {cdv : Value} {A : Around} {outer : List Env} {s : Shared} {E : XK} (hN : N.Nodup) (hk : sc.kind = .function) (hr : Room k (A.deeper (envOfC qual sc s.heap.objs.size f cdv))) :
    Gs G N sc k (fun cls d _ H => E cls d H) (cxOf (L2.CX G.P G.w) G.P G.w G.K G.mg G.base N qual sc f cdv A outer s H E) :=
  ⟨{ prog := rfl, w := rfl, K := rfl, mg := rfl, base := rfl, nN := rfl, nd := hN, sc := rfl, un := hr.units, calm := rfl, room := hr, tk := takes_of rfl rfl rfl rfl, po := passes_of rfl }, fun _ => rfl, hk, rfl, rfl⟩
theorem fn_ok {x qual : Str} {params : Arguments} {body : List Stmt} {sc : Scope} {dvs : List V} {kws : List (Str × V)} {f : Addr} {fd : FuncData} {N ps : List Str} {k n m : Nat} {md : Bool} {st : EvS} {Fo : List SF} (F : FunD G.K x qual params body sc dvs kws f fd) (S : FnScope N ps sc) (hp : ps.length = n) (hN : N.length = n + m)
    (hb : ∀ (X : Cx) (W : WX), Gs G N sc k W X → PSs X body (TSv G ⟨md, W, []⟩ (F0 n m) Fo st)) : FnOk G.P G.w G.K G.mg G.base (L2.CX G.P G.w) (k + 1) f fd ps (spF G md n (runF m st)) := by
  refine F.ok S (fun vs H Q E h => by rw [hp]; exact h.1) fun cdv A outer s H vs Q E hr h => ⟨_, hb _ _ (gs_of S.nd S.kind hr), ?_⟩
  obtain ⟨hv, ds, A0, r, q⟩ := h
  refine ⟨Fr.new H A0, _, Own.new, start_ok hN hv r, ?_⟩
  unfold runF at q
  revert q
  cases e : st (ds.map some ++ List.replicate m none) with
  | ok fl =>
    cases fl with
    | nx en =>
      intro q σ' H' own' ok'
      refine q .non H' (fun b o z => ok'.same b o id z) ?_
      cases md with
      | true => exact ⟨[], ⟨rfl, rfl⟩, fun a h => by cases h⟩
      | false => exact rfl
    | rt d =>
      intro q v H' sm _ rr
      exact q v H' (fun b o z => sm b o id z) rr
    | ct en => exact fun q => q.elim
  | error er =>
    cases er with
    | stuck => exact fun q => q.elim
    | raise e => exact fun q σ' H' sm => q H' fun b o z => sm b o id z
theorem fn_cal {x qual : Str} {params : Arguments} {body : List Stmt} {sc : Scope} {kws : List (Str × V)} {f : Addr} {fd : FuncData} {N ps : List Str} {k n m : Nat} {md : Bool} {st : EvS} {Fo : List SF} (F : FunD G.K x qual params body sc [] kws f fd) (hg : G.mg x = some (.ref f)) (S : FnScope N ps sc) (hp : ps.length = n) (hN : N.length = n + m)
    (hbd : Binds G.K fd ps [])
    (hb : ∀ (X : Cx) (W : WX), Gs G N sc k W X → PSs X body (TSv G ⟨md, W, []⟩ (F0 n m) Fo st)) : Cal G (k + 1) x md n (runF m st) :=
  ⟨f, fd, ps, fn_ok F S hp hN hb, hg, F.kp, hbd⟩
theorem fn_calD {x qual : Str} {params : Arguments} {body : List Stmt} {sc : Scope} {dv : V} {du : Value} {kws : List (Str × V)} {f : Addr} {fd : FuncData} {N ps : List Str} {k n m : Nat} {md : Bool} {st : EvS} {Fo : List SF} {dd : D} (F : FunD G.K x qual params body sc [dv] kws f fd) (hg : G.mg x = some (.ref f)) (S : FnScope N ps sc) (hp : ps.length = n + 1) (hN : N.length = n + 1 + m)
    (hbd : Binds G.K fd ps [du]) (hr : RelV dv du) (hf : flat dd = true) (hd : ∀ A H, R G A H dd dv)
    (hb : ∀ (X : Cx) (W : WX), Gs G N sc k W X → PSs X body (TSv G ⟨md, W, []⟩ (F0 (n + 1) m) Fo st)) : CalD G (k + 1) x md n dd (runF m st) :=
  ⟨f, fd, ps, dv, du, fn_ok F S hp hN hb, hg, F.kp, hbd, hr, hf, hd⟩
end
inductive Cl where
  | own (x : Str) | ty (n : String)
  deriving DecidableEq
def Cl.v (G : Gb) : Cl → V
  | .own x => .ref (G.ga x)
  | .ty n => .ty n
def Cl.u (G : Gb) : Cl → Value
  | .own x => .ref (G.ga x)
  | .ty n => .type n
def Cl.nm : Cl → Str
  | .own x => x
  | .ty n => Str.ofString n
def xnm (xs : List Str) (e : Nat) : Str := xs.getD (min e (xs.length - 1)) ""
section
variable {G : Gb} {S : Se} {W : WX} {N : List Str} {sc : Scope} {k : Nat} {X : Cx} {F F1 F2 F3 Fh Fx : List SF} {Fo : List SF} {f f1 f2 : VF} {c : Fr} {en : En} {own own0 : Own} {σ : L2.St} {H H' H0 : Hp}
theorem Cl.cv (G : Gb) : ∀ y : Cl, ClsV (y.v G) (y.u G)
  | .own _ => .own _
  | .ty _ => .ty _
theorem Gs.tr (g : Gs G N sc k W X) {W' : WX} {pn : List (Addr × Obj)} {xe : Value → Shared → Prop} (tk : Takes (X.tr pn xe) W') (po : PassesOwn (model X.prog X.w) X.A X.env xe) : Gs G N sc k W' (X.tr pn xe) :=
  ⟨{ prog := g.g.prog, w := g.g.w, K := g.g.K, mg := g.g.mg, base := g.g.base, nN := g.g.nN, nd := g.g.nd, sc := g.g.sc, un := g.g.un, calm := g.g.calm, room := g.g.room, tk := tk, po := po }, g.fn, g.kd, g.stk, g.frm⟩
end
end Pi
namespace Pi
open PySem PySem.Spec PyProof.Rows L2 He
theorem noCX {P : Program} {w : World} {H : Hp} {s : Shared} {e : Value} {s' : Shared} (h : L2.CX P w [] H s (fun _ _ _ => False) e s') : False := by
  obtain ⟨a, B, H', cls, d, _, _, _, _, _, _, _, z⟩ := h
  exact z
def gOf (P : Program) (w : World) (K : PySem.W.Frag) (mg : Str → Option Value) (base : Heap) (cn : List (Str × List Str)) (xs : List Str) : Gb where
  P := P
  w := w
  K := K
  mg := mg
  base := base
  ca := fun i => ga K ((cn.getD i ("", [])).1)
  cf := fun i => (cn.getD i ("", [])).2
  xa := fun e => ga K (xnm xs e)
  ga := ga K
section
variable {P : Program} {w : World} {K : PySem.W.Frag} {mg : Str → Option Value} {base h : Heap} {cn : List (Str × List Str)} {xs : List Str} {cs : List Cl}
theorem xcl_of (X : K.In h) (Gn : h.Ns mainGlobals mg) (e : Nat) {x : Str} (hx : xnm xs e = x) (h1 : (Fa.glo x).ok K = true) (h2 : (Fa.exc x).ok K = true) : Xcl (gOf P w K mg base cn xs) x e := by
  subst hx
  obtain ⟨q1, q2, q3, q4⟩ := exc_ok h2
  exact ⟨glo_ok X Gn h1, q1, q2, q3, q4⟩
end
end Pi
namespace Pi
open PySem PySem.Spec PyProof.Rows L2
section
variable {G : Gb} {S : Se} {W : WX} {N : List Str} {sc : Scope} {k : Nat} {X : Cx} {F F1 F2 F3 Fh Fx : List SF} {Fo : List SF} {f f1 f2 : VF} {c : Fr} {en : En} {own own0 : Own} {σ : L2.St} {H H' H0 : Hp}
theorem opr_eqG (g : Gv G N sc X) : OpR X (compareOp .Eq) (rEqP G.K false) := by rw [← g.K]; exact opr_eq g.un
theorem opr_neG (g : Gv G N sc X) : OpR X (compareOp .NotEq) (rEqP G.K true) := by rw [← g.K]; exact opr_ne g.un
theorem de_add {a b : Expr} {pos : Pos} {ea eb : EvE} (ha : PE X a (TEv G W F F1 f1 ea)) (hb : PE X b (TEv G W F1 F2 f2 eb)) : PE X (.BinOp a .Add b pos) (TEv G W F F2 (.uq (f1.dp && f2.dp)) (eB2 oAdd ea eb)) := de_op opr_add ops_add ha hb
theorem de_sub {a b : Expr} {pos : Pos} {ea eb : EvE} (ha : PE X a (TEv G W F F1 f1 ea)) (hb : PE X b (TEv G W F1 F2 f2 eb)) : PE X (.BinOp a .Sub b pos) (TEv G W F F2 (.uq true) (eB2 oSub ea eb)) := de_op opr_sub ops_sub ha hb
theorem de_mul {a b : Expr} {pos : Pos} {ea eb : EvE} (ha : PE X a (TEv G W F F1 f1 ea)) (hb : PE X b (TEv G W F1 F2 f2 eb)) : PE X (.BinOp a .Mult b pos) (TEv G W F F2 (.uq (f1.dp && f2.dp)) (eB2 oMul ea eb)) := de_op opr_mul ops_mul ha hb
theorem de_div {a b : Expr} {pos : Pos} {ea eb : EvE} (ha : PE X a (TEv G W F F1 f1 ea)) (hb : PE X b (TEv G W F1 F2 f2 eb)) : PE X (.BinOp a .FloorDiv b pos) (TEv G W F F2 (.uq true) (eB2 oDiv ea eb)) := de_op opr_div ops_div ha hb
theorem de_mod {a b : Expr} {pos : Pos} {ea eb : EvE} (ha : PE X a (TEv G W F F1 f1 ea)) (hb : PE X b (TEv G W F1 F2 f2 eb)) : PE X (.BinOp a .Mod b pos) (TEv G W F F2 (.uq true) (eB2 oMod ea eb)) := de_op op_modN ops_mod ha hb
theorem de_pow {a b : Expr} {pos : Pos} {ea eb : EvE} (ha : PE X a (TEv G W F F1 f1 ea)) (hb : PE X b (TEv G W F1 F2 f2 eb)) : PE X (.BinOp a .Pow b pos) (TEv G W F F2 (.uq true) (eB2 oPow ea eb)) := de_op op_pow ops_pow ha hb
theorem ds_pre {st : Stmt} {s : EvS} (h : PS X st (TSv G S F1 Fo s)) (w : wkL F F1 = true := by rfl) : PS X st (TSv G S F Fo s) := by
  refine ps_imp h ?_
  rintro D σ H ⟨c, en, own, ok, m⟩
  obtain ⟨own2, ok2, _⟩ := ok.weak w
  exact ⟨c, en, own2, ok2, m⟩
theorem tboot_int : bootBuiltins "int" = some (.type Ty.int.nm) := by decide +kernel
theorem tboot_bool : bootBuiltins "bool" = some (.type Ty.bool.nm) := by decide +kernel
theorem tboot_str : bootBuiltins "str" = some (.type Ty.str.nm) := by decide +kernel
theorem tboot_list : bootBuiltins "list" = some (.type Ty.list.nm) := by decide +kernel
theorem tboot_tuple : bootBuiltins "tuple" = some (.type Ty.tuple.nm) := by decide +kernel
end
end Pi
namespace Pi
open PySem PySem.Spec PyProof.Rows L2 He
def bitsLe (ns : List Int) : Prop := ∀ z, z ∈ ns → Builtin.Int.intBits z ≤ 1048576
def spLawB (K : PySem.W.Frag) (n : Nat) : Sp := fun vs H Q _ => ∃ (a : Addr) (ns : List Int), vs = [.ref a] ∧ ns.length ≤ n ∧ bitsLe ns ∧ SqF K H a (ns.map V.int) ∧ ∀ H', Q (.bl true) H'
theorem law_okB {G : Gb} {P : Program} {w : World} {K : PySem.W.Frag} {mg : Str → Option Value} {base : Heap} {CX : CXT} {k n : Nat} {f : Addr} {fd : FuncData} {ps : List Str} {md : Bool} {fn : List D → Rs D} (h : FnOk P w K mg base CX k f fd ps (spF G md 1 fn)) (hK : G.K = K) (hp : ps.length = 1)
    (hfn : ∀ ns : List Int, ns.length ≤ n → bitsLe ns → fn [.scr ns] = .ok (.bl true)) : FnOk P w K mg base CX k f fd ps (spLawB K n) := by
  have m : ∀ vs H Q E, spLawB K n vs H Q E → spF G md 1 fn vs H Q E := by
    rintro vs H Q E ⟨a, ns, rfl, hl, hbits, hS, q⟩
    subst hK
    refine ⟨rfl, [.scr ns], fun _ => True, ⟨_, _, rfl, ⟨a, rfl, hS⟩, rfl⟩, ?_⟩
    rw [hfn ns hl hbits]
    intro v H' _ r
    have : v = .bl true := by
      cases md with
      | true => obtain ⟨os, h, _⟩ := r; exact h.2
      | false => exact r
    rw [this]
    exact q H'
  obtain ⟨h1, h2⟩ := h
  exact ⟨fun vs H Q E hs => h1 vs H Q E (m _ _ _ _ hs), fun A outer s H args us vs Q E hr e0 hb r hsp => h2 A outer s H args us vs Q E hr e0 hb r (m _ _ _ _ hsp)⟩
theorem law_endB {K : PySem.W.Frag} {n : Nat} (H : Hp) (a : Addr) (ns : List Int) (hl : ns.length ≤ n) (hb : bitsLe ns) (ho : Only H) (hS : SqL K H a (ns.map V.int)) : spLawB K n [.ref a] H (fun v _ => v = .bl true) fun _ _ _ => False := by
  refine ⟨a, ns, rfl, hl, hb, ?_, fun _ => rfl⟩
  rcases hS with (h | ⟨o, h⟩) | h
  · rcases ho a with z | ⟨o, xs, z⟩
    · rw [z] at h; cases h
    · rw [z] at h; cases h
  · exact .inl ⟨o, h⟩
  · exact .inr h
theorem walk_ofWB {l : PySem.W.OpenLaw} {n k : Nat} {q : Program} {loose : List Str} {XP : (Str → Option Value) → Heap → Prop} {YP : World → Heap → Prop} {d : DefRec} {CX : World → CXT} {x : Str}
    (hn : l.most = some n) (hn2 : n ≤ sizeLine) (hdf : d.params.defaults = []) (hr : Room k callerA)
    (F : ∀ (w : World) (mg : Str → Option Value) (fa : Addr) (h : Heap), YP w h → h.Ns mainGlobals mg → mg d.name = some (.ref fa) →
      ∃ (K : PySem.W.Frag) (fd : FuncData) (sp : Sp), K.In h ∧ (∀ (s : Shared) (u : Value), BindsTo s fd ⟨[u], []⟩ [(x, u)]) ∧
        (∀ (H : Hp) (a : Addr) (ns : List Int), ns.length ≤ n → bitsLe ns → Only H → SqL K H a (ns.map V.int) → sp [.ref a] H (fun v _ => v = .bl true) fun _ _ _ => False) ∧
        ∀ base : Heap, K.In base → base.Ns mainGlobals mg → FnOk l.prog w K mg base (CX w) k fa fd [x] sp)
    (hCX : ∀ (w : World) (H : Hp) (s : Shared) (e : Value) (s' : Shared), CX w [] H s (fun _ _ _ => False) e s' → False) :
    PySem.W.WalkO q loose XP YP l.row.toRowW d [] (fun f vs => PySem.call f vs) := by
  refine Att.attach_callB hn hdf fun w s₀ s₁ mg mb fa o pm cd doc a vs ns G Y ho hd hcd hmg hobj hints hlen hbits hg => ?_
  obtain ⟨K, fd, sp, KX, hb, hsp, hF⟩ := F w mg fa _ Y G.T.g hmg
  exact law_call KX G.T.g G.T.b G.T.builtins G.T.nolimit hg hobj hints (Nat.le_trans hlen hn2) hr hF hb (fun H hO hS => hsp H a ns hlen hbits hO hS) fun H e s' => hCX w H s₁ e s'
end Pi
namespace Pi
open PySem PySem.Spec PyProof.Rows L2 He
def hookQ (as : List Addr) (fa : List Fa) (fn : List DefD) (ex : PySem.W.Frag → Bool) : PySem.W.Hook where
  α := AlD × Bool
  obs := fun s => (obsD fa fn (frG s.heap.get? as), ex (frG s.heap.get? as))
  val := fun _ => (valD fn, true)
  says := fun _ h => ∃ K : PySem.W.Frag, K.In h ∧ SaysD fa fn K ∧ ex K = true
  of := fun _ _ e => ⟨_, frG_in, congrArg (fun z : AlD × Bool => z.1) e, congrArg (fun z : AlD × Bool => z.2) e⟩
  keeps := fun _ _ _ ⟨K, hK, c⟩ k => ⟨K, PySem.W.Frag.In.keeps hK k, c⟩
def obQ (as : List Addr) (fa : List Fa) (fn : List DefD) (ex : PySem.W.Frag → Bool) (g : Addr → Option Obj) : AlD × Bool := (obsD fa fn (frG g as), ex (frG g as))
theorem obQ_eq {as : List Addr} {fa : List Fa} {fn : List DefD} {ex : PySem.W.Frag → Bool} {g : Addr → Option Obj} {s : Shared} (h : ∀ a, g a = s.heap.get? a) : obQ as fa fn ex g = (hookQ as fa fn ex).obs s := by
  have e : g = s.heap.get? := funext h
  rw [e] <;> rfl
end Pi
namespace Pi
open PySem PySem.Spec PyProof.Rows L2
def wipF : List Nat → List SF → List SF
  | [], F => F
  | v :: vs, F => (wipF vs F).set v .n
def wipE : List Nat → En → En
  | [], en => en
  | v :: vs, en => (wipE vs en).set v none
def SF.blk : SF → SF
  | .s _ => .s false
  | .o _ | .z => .z
  | _ => .n
def blkF (vs : List Nat) (F : List SF) : List SF := wipF vs (F.map SF.blk)
theorem wipF_len (vs : List Nat) (F : List SF) : (wipF vs F).length = F.length := by
  induction vs with
  | nil => rfl
  | cons v vs ih => simp [wipF, ih]
theorem wipE_len (vs : List Nat) (en : En) : (wipE vs en).length = en.length := by
  induction vs with
  | nil => rfl
  | cons v vs ih => simp [wipE, ih]
theorem wipF_out {vs : List Nat} {F : List SF} {j : Nat} (h : j ∉ vs) : (wipF vs F)[j]? = F[j]? := by
  induction vs with
  | nil => rfl
  | cons v vs ih =>
    simp only [List.mem_cons, not_or] at h
    rw [wipF, List.getElem?_set_ne (fun e => h.1 e.symm), ih h.2]
theorem wipF_in {vs : List Nat} {F : List SF} {j : Nat} (h : j ∈ vs) : (wipF vs F)[j]? = some .n ∨ (wipF vs F)[j]? = none := by
  by_cases hj : j < F.length
  · refine .inl ?_
    induction vs with
    | nil => cases h
    | cons v vs ih =>
      rw [wipF]
      by_cases e : v = j
      · subst e; exact List.getElem?_set_self (by rw [wipF_len]; exact hj)
      · rw [List.getElem?_set_ne e]
        exact ih ((List.mem_cons.mp h).resolve_left fun z => e z.symm)
  · exact .inr (List.getElem?_eq_none (by rw [wipF_len]; omega))
theorem wipE_out {vs : List Nat} {en : En} {j : Nat} (h : j ∉ vs) : (wipE vs en)[j]? = en[j]? := by
  induction vs with
  | nil => rfl
  | cons v vs ih =>
    simp only [List.mem_cons, not_or] at h
    rw [wipE, List.getElem?_set_ne (fun e => h.1 e.symm), ih h.2]
theorem wipe_out {vs : List Nat} {σ : L2.St} {j : Nat} (h : j ∉ vs) : (wipe σ vs)[j]? = σ[j]? := by
  induction vs with
  | nil => rfl
  | cons v vs ih =>
    simp only [List.mem_cons, not_or] at h
    rw [wipe, List.getElem?_set_ne (fun e => h.1 e.symm), ih h.2]
theorem wipe_in {vs : List Nat} {σ : L2.St} {j : Nat} (h : j ∈ vs) : (wipe σ vs)[j]? = if j < σ.length then some none else none := by
  by_cases hj : j < σ.length
  · rw [if_pos hj]
    induction vs with
    | nil => cases h
    | cons v vs ih =>
      rw [wipe]
      by_cases e : v = j
      · subst e; exact List.getElem?_set_self (by rw [wipe_length]; exact hj)
      · rw [List.getElem?_set_ne e]
        exact ih ((List.mem_cons.mp h).resolve_left fun z => e z.symm)
  · rw [if_neg hj]
    exact List.getElem?_eq_none (by rw [wipe_length]; omega)
theorem wipe_eq {vs is : List Nat} {σ σ2 : L2.St} (hs : ∀ i, i ∈ is → i ∈ vs) (hl : σ2.length = (wipe σ vs).length) (h : ∀ j, j ∉ is → σ2[j]? = (wipe σ vs)[j]?) : wipe σ2 vs = wipe σ vs := by
  rw [wipe_length] at hl
  apply List.ext_getElem?
  intro j
  by_cases hj : j ∈ vs
  · rw [wipe_in hj, wipe_in hj, hl]
  · rw [wipe_out hj, h j fun z => hj (hs j z)]
def Fr.blk (c : Fr) (own : Own) (H1 : Hp) (D : Addr) : Fr := ⟨upd H1 D (.lst []), fun a => Av c (ow own) false a ∧ a ≠ D, fun a => ow own a ∨ a = D, fun _ => none, fun _ => none⟩
open Classical in
noncomputable def Own.blk (own : Own) (Fb : List SF) : Own := ⟨fun j => if Fb[j]? = some .z then own.sl j else [], fun _ => False⟩
section
variable {G : Gb} {S : Se} {W : WX} {N : List Str} {sc scope : Scope} {k : Nat} {X : Cx} {F F1 F2 F3 F4 Fh : List SF} {Fo : List SF} {f f1 f2 : VF} {c : Fr} {en : En} {own own0 : Own} {σ : L2.St} {H H' H0 H1 : Hp} {Da : Addr} {vs : List Nat}
theorem ow_blk {Fb : List SF} {a : Addr} (h : ow (own.blk Fb) a) : ow own a := by
  rcases h with ⟨j, hj⟩ | h
  · unfold Own.blk at hj
    dsimp only at hj
    split at hj
    · exact .inl ⟨j, hj⟩
    · cases hj
  · exact h.elim
theorem up_blk (ok : Ok G c F en own σ H1) (hD : H1 Da = none) (s : Same H1 H) {dp : Bool} {Fb : List SF} : Up G.K (Av c (ow own) dp) (Av (c.blk own H1 Da) (ow (own.blk Fb)) false) H1 H := by
  have m : ∀ {a o}, Av c (ow own) dp a → H1 a = some o → Av (c.blk own H1 Da) (ow (own.blk Fb)) false a := fun {a o} h e =>
    ⟨fun z => h.1 (ow_blk z), fun z => (nomatch z), .inr ⟨h.undp, fun z => by rw [z, hD] at e; cases e⟩⟩
  refine ⟨fun a xs h e => ⟨m h e, s _ _ e⟩, fun a kvs h e => ⟨?_, rdS e s⟩, fun a C dx fs h e => ⟨m h e, s _ _ e⟩, fun a xs e => rdS e s, fun a xs e => sfS e s⟩
  rcases e with e | ⟨o, e⟩
  · exact m h e
  · exact m h e
theorem blk_ok (ok : Ok G c F en own σ H1) (hD : H1 Da = none) (s : Same H1 H) {o : HO} (hH : H Da = some o) : Ok G (c.blk own H1 Da) (blkF vs F) (wipE vs en) (own.blk (blkF vs F)) (wipe σ vs) H := by
  refine { lF := by rw [wipe_length, ← ok.lF]; simp [blkF, wipF_len], lE := by rw [wipe_length, wipE_len]; exact ok.lE, same := fun b x nb e => ?_, tr := fun a h => ?_, dj := fun i j a h1 h2 => ?_, dt := fun i a h z => z.elim, nt := fun a h => h.elim, nw := fun i a h => ?_, sl := fun i => ?_, lk := fun a x h => (nomatch h) }
  · have ne : b ≠ Da := fun z => nb (.inr z)
    have e' : H1 b = some x := by
      have z : (upd H1 Da (.lst []) : Hp) b = some x := e
      rw [upd_ne ne] at z
      exact z
    exact s _ _ e'
  · rcases h with h | h
    · exact same_ne s (ok.trk h)
    · rw [h, hH]; simp
  · unfold Own.blk at h1 h2
    dsimp only at h1 h2
    split at h1
    · split at h2
      · exact ok.dj i j a h1 h2
      · cases h2
    · cases h1
  · unfold Own.blk at h
    dsimp only at h
    split at h
    · rename_i z
      exact ⟨same_ne s (ok.nw i a h).1, .inr ⟨by rw [z]; trivial, .inl (.inl ⟨i, h⟩)⟩⟩
    · cases h
  · by_cases hi : i ∈ vs
    · unfold Slt
      rcases wipF_in (F := F.map SF.blk) hi with e | e
      · rw [show (blkF vs F)[i]? = _ from e]; simp
      · rw [show (blkF vs F)[i]? = _ from e]; simp
    · have hF : (blkF vs F)[i]? = (F[i]?).map SF.blk := by
        unfold blkF
        rw [wipF_out hi, List.getElem?_map]
      have h := ok.sl i
      unfold Slt at h ⊢
      rw [hF, wipE_out hi, wipe_out hi]
      have hz : (blkF vs F)[i]? = some .z → (own.blk (blkF vs F)).sl i = own.sl i := fun z => if_pos z
      cases q : F[i]? with
      | none => simp
      | some f =>
        rw [q] at h hF
        cases he : en[i]? with
        | none => cases f <;> simp [SF.blk]
        | some od =>
          cases od with
          | none => cases f <;> simp [SF.blk]
          | some d =>
            rw [he] at h
            cases f with
            | n => simp [SF.blk]
            | dt _ => simp [SF.blk]
            | ma _ => simp [SF.blk]
            | x a => simp [SF.blk]
            | s dp => obtain ⟨x, h1, h2⟩ := h; exact ⟨x, h1, R.up (up_blk ok hD s) _ h2⟩
            | o dp =>
              obtain ⟨x, h1, h2⟩ := h
              refine ⟨x, h1, ?_⟩
              rw [hz hF]
              exact ⟨RO.up h2 (up_blk ok hD s) (fun a o _ e => s _ _ e), fun a ha => .inl (.inl ⟨i, ha⟩)⟩
            | z =>
              obtain ⟨x, h1, h2, _⟩ := h
              refine ⟨x, h1, ?_⟩
              rw [hz hF]
              exact ⟨RO.up h2 (up_blk ok hD s) (fun a o _ e => s _ _ e), fun a ha => .inl (.inl ⟨i, ha⟩)⟩
theorem up_out (ok : Ok G c F en own σ H1) (hD : H1 Da = none) {O : Addr → Prop} {dp : Bool} : Up G.K (Av (c.blk own H1 Da) O dp) (Av c (ow (own.resL [Da])) dp) H H := by
  have m : ∀ {a}, Av (c.blk own H1 Da) O dp a → Av c (ow (own.resL [Da])) dp a := fun {a} h => by
    have no : ow (own.resL [Da]) a → False := fun z => by
      have z2 : ow own a ∨ a = Da := by
        rcases z with z | z | z
        · exact .inl (.inl z)
        · exact .inl (.inr z)
        · exact .inr (by simpa using z)
      rcases h.2.2 with q | q
      · have q' : (upd H1 Da (.lst []) : Hp) a = none := q
        rcases z2 with z2 | z2
        · have ne : a ≠ Da := fun e => ok.trk z2 (by rw [e]; exact hD)
          rw [upd_ne ne] at q'
          exact ok.trk z2 q'
        · rw [z2, upd_same] at q'; cases q'
      · rcases z2 with z2 | z2
        · exact q.1.1 z2
        · exact q.2 z2
    have fr : (upd H1 Da (.lst []) : Hp) a = none → c.H0 a = none := fun q => by
      have ne : a ≠ Da := fun e => by rw [e, upd_same] at q; cases q
      rw [upd_ne ne] at q
      exact ok.free q
    refine ⟨no, fun z => fr (h.2.1 z), ?_⟩
    rcases h.2.2 with q | q
    · exact .inl (fr q)
    · exact q.1.2.2
  exact ⟨fun a xs h e => ⟨m h, e⟩, fun a kvs h e => ⟨m h, e⟩, fun a C dx fs h e => ⟨m h, e⟩, fun a xs e => e, fun a xs e => e⟩
theorem up_in {Fb : List SF} {dp : Bool} : Up G.K (Av (c.pin own H1) (ow (own.resL [Da])) dp) (Av (c.blk own H1 Da) (ow (own.blk Fb)) false) H H := by
  have m : ∀ {a}, Av (c.pin own H1) (ow (own.resL [Da])) dp a → Av (c.blk own H1 Da) (ow (own.blk Fb)) false a := fun {a} h => by
    have n1 : ¬ ow own a := fun z => h.1 (z.elim .inl fun z => .inr (.inl z))
    exact ⟨fun z => n1 (ow_blk z), fun z => (nomatch z), .inr ⟨⟨n1, fun z => (nomatch z), h.2.2⟩, fun z => h.1 (.inr (.inr (by simp [z])))⟩⟩
  exact ⟨fun a xs h e => ⟨m h, e⟩, fun a kvs h e => ⟨m h, e⟩, fun a C dx fs h e => ⟨m h, e⟩, fun a xs e => e, fun a xs e => e⟩
abbrev wF : WX := fun _ _ _ _ => False
def rl (sc scope : Scope) : Scope := { scope with names := scope.names.map fun (n, k) => if (k == NameKind.free && sc.kind == .function && sc.names.lookup n == some .cell) then (n, NameKind.cell) else (n, k) }
theorem Gd.blk (g : Gd G N sc k W X) {s : Shared} {H : Hp} {C : Addr} {cl : List (Str × Addr)} {fp : List Addr} : Gd G N (rl sc scope) k wF (X.blk s H scope (compEnvC scope cl C X.env) fp) :=
  { prog := g.prog, w := g.w, K := g.K, mg := g.mg, base := g.base, nN := g.nN, nd := g.nd, sc := by rw [← g.sc] <;> rfl, un := g.un, calm := g.calm, room := g.room, tk := takes0, po := PassesOwn.never }
theorem dts_nil : PTs X [] (TTv G W F F (fun _ => .ok true)) := ⟨fun pins s σ H Q I hw => pts_nil.run pins s σ H Q I (by
  obtain ⟨c, en, own, ok, m⟩ := hw
  exact m H own ok (Same.refl H) sub_refl)⟩
theorem dts_one {e : Expr} {t : En → Rs Bool} (h : PT X e (TTv G W F F1 t)) : PTs X [e] (TTv G W F F1 t) := pts_one h
def noR {α : Type} : Rs α → Rs α
  | .ok a => .ok a
  | .error _ => .error .stuck
def evLc (set : En → D → Option En) (t : En → Rs Bool) (e : EvE) (enb : En) : List D → Rs (List D)
  | [] => .ok []
  | d :: ds => bnd (ofO (set enb d)) fun en1 => bnd (t en1) fun b => if b = true then bnd (e en1) fun y => bnd (evLc set t e enb ds) fun r => .ok (y :: r) else evLc set t e enb ds
def eLc (vs : List Nat) (evI : EvI) (set : En → D → Option En) (t : En → Rs Bool) (e : EvE) : EvE := fun en => bnd (evI en) fun ds => bnd (noR (evLc set t e (wipE vs en) ds)) fun l => if l.length ≤ sizeLine then .ok (.lst l) else .error .stuck
theorem noR_ok {α : Type} {r : Rs α} {q : α → Prop} (h : Mt G W c σ (noR r) q) : ∃ a, r = .ok a ∧ q a := by
  cases r with
  | ok a => exact ⟨a, rfl, h⟩
  | error e => exact h.elim
theorem bnd_ok' {α β : Type} {r : Rs α} {h : α → Rs β} {b : β} (e : bnd r h = .ok b) : ∃ a, r = .ok a ∧ h a = .ok b := by
  cases r with
  | ok a => exact ⟨a, rfl, e⟩
  | error x => cases e
theorem ofO_ok' {α : Type} {o : Option α} {a : α} (e : ofO o = .ok a) : o = some a := by
  cases o with
  | none => cases e
  | some b => cases e; rfl
theorem lc_core {wi : TI} {gg : TG} {tt : TT} {te : TE} {dpi : Bool} {is : List Nat} {evI : EvI} {set : En → D → Option En} {t : En → Rs Bool} {ee : EvE} {tg : Expr} {X' : Cx} (hi : ∀ σ H Q, TIv G W F F1 dpi evI σ H Q → wi σ H Q)
    (hg : TgO G X' tg gg (blkF vs F1) F2 false is set) (ht : ∀ σ H Q, TTv G wF F2 F3 t σ H Q → tt σ H Q) (he : ∀ σ H Q, TEv G wF F3 F4 f ee σ H Q → te σ H Q) (his : ∀ i, i ∈ is → i ∈ vs) (hn : f.nb = true) :
    ∀ σ H Q, TEv G W F F1 (.uq f.dp) (eLc vs evI set t ee) σ H Q → tLc wi gg tt te vs σ H Q := by
  rintro σ H Q ⟨c, en, own, ok, m⟩
  refine hi _ _ _ ⟨c, en, own, ok, m.bnd.imp fun ds _ q J H1 own1 ok1 s1 b1 its D hD => ?_⟩
  obtain ⟨l, el, q⟩ := noR_ok q.bnd
  split at q
  · rename_i hlen
    have hfin : ∀ {H : Hp}, Same H1 H → H D ≠ none → Ok G c F1 en (own1.resL [D]) σ H := fun sH nD => ok1.resL sH (fun a ha => by rw [show a = D by simpa using ha]; exact hD) (fun a ha => by rw [show a = D by simpa using ha]; exact nD)
    refine ⟨fun i m H => m = ds.length - i ∧ i ≤ ds.length ∧ Same H1 H ∧ ∃ acc done rest, H D = some (.lst acc) ∧ RL G (Av c (ow (own1.resL [D])) f.dp) H done acc ∧ evLc set t ee (wipE vs en) (ds.drop i) = .ok rest ∧ done ++ rest = l, ⟨_, rfl, Nat.zero_le _, same_new hD, [], [], l, upd_same, rfl, el, rfl⟩, ?_⟩
    rintro i m H ⟨rfl, hi, sH, acc, done, rest, hHD, hRL, hev, hl⟩
    by_cases hlt : i < ds.length
    · have hd : ds[i]? = some ds[i] := List.getElem?_eq_getElem hlt
      rw [List.drop_eq_getElem_cons hlt] at hev
      obtain ⟨en1, e1, hev⟩ := bnd_ok' hev
      obtain ⟨b, e2, hev⟩ := bnd_ok' hev
      have okP : Ok G (c.pin own1 H1) F1 en (own1.resL [D]) σ H := ok1.pin.resL sH (fun a ha => by rw [show a = D by simpa using ha]; exact hD) (fun a ha => by rw [show a = D by simpa using ha, hHD]; simp)
      obtain ⟨hgo, hy⟩ := its.go okP hd
      refine .inr ⟨hgo, fun H5 => Same H1 H5 ∧ ∃ acc done rest, H5 D = some (.lst acc) ∧ RL G (Av c (ow (own1.resL [D])) f.dp) H5 done acc ∧ evLc set t ee (wipE vs en) (ds.drop (i + 1)) = .ok rest ∧ done ++ rest = l, fun H5 q5 => ⟨_, by omega, rfl, hlt, q5.1, q5.2⟩, fun x H' y => ?_⟩
      obtain ⟨sm, rx⟩ := hy x H' y
      have blk := blk_ok (vs := vs) ok1 hD (sH.trans sm) (sm _ _ hHD)
      refine hg.ok blk (R.up up_in _ rx) (ofO_ok' e1) fun σ2 own2 ok2 _ z => ⟨wipe_eq his z.1 z.2, ht _ _ _ ⟨_, en1, own2, ok2, ?_⟩⟩
      rw [e2]
      intro H3 own3 ok3 s3 b3
      cases b with
      | false =>
        rw [if_neg (by decide)] at hev ⊢
        exact ⟨(sH.trans sm).trans s3, acc, done, rest, s3 _ _ (sm _ _ hHD), RL.up (Up.same (sm.trans s3) fun _ h => h) _ hRL, hev, hl⟩
      | true =>
        rw [if_pos rfl] at hev ⊢
        obtain ⟨y', e3, hev⟩ := bnd_ok' hev
        obtain ⟨r, e4, hev⟩ := bnd_ok' hev
        cases hev
        refine he _ _ _ ⟨_, en1, own3, ok3, ?_⟩
        rw [e3]
        intro v H4 own4 ok4 s4 b4 r4
        obtain ⟨own5, ok5, sb5, a4⟩ := r4.share ok4 hn
        have hD4 : H4 D = some (.lst acc) := s4 _ _ (s3 _ _ (sm _ _ hHD))
        have s14 : Same H1 H4 := ((sH.trans sm).trans s3).trans s4
        have nA : ¬ Av c (ow (own1.resL [D])) f.dp D := fun z => z.1 (.inr (.inr (by simp)))
        have hlen2 : acc.length < sizeLine := by
          rw [hRL.len]
          have := congrArg List.length hl
          simp only [List.length_append, List.length_cons] at this
          omega
        refine ⟨acc, hD4, hlen2, fun b o e => ?_, acc ++ [v], done ++ [y'], r, upd_same, RL.app (RL.up (Up.write hD4 trivial nA) _ (RL.up (Up.same ((sm.trans s3).trans s4) fun _ h => h) _ hRL)) (RL.cons (R.up (Up.write hD4 trivial nA) _ (R.up (up_out ok1 hD) _ a4)) RL.nil), e4, by rw [← hl]; simp⟩
        rw [upd_ne (fun z => by rw [z, hD] at e; cases e)]
        exact s14 _ _ e
    · have e : i = ds.length := by omega
      subst e
      rw [List.drop_length] at hev
      cases hev
      rw [List.append_nil] at hl
      subst hl
      have okf := hfin sH (by rw [hHD]; simp)
      have okP : Ok G (c.pin own1 H1) F1 en (own1.resL [D]) σ H := ok1.pin.resL sH (fun a ha => by rw [show a = D by simpa using ha]; exact hD) (fun a ha => by rw [show a = D by simpa using ha, hHD]; simp)
      exact .inl ⟨its.stop okP, q (.ref D) H _ okf (s1.trans sH) (sub_trans b1 s1 (sub_resL fun a ha => by rw [show a = D by simpa using ha]; exact hD)) ⟨[D], ⟨D, acc, rfl, rfl, hHD, hRL⟩, fun a ha => .inr ha⟩⟩
  · exact q.elim
theorem blkFn {s : Shared} {H : Hp} {cenv : Env} {fp : List Addr} : ∀ x, scope.names.lookup x = some .cell → (X.blk s H scope cenv fp).fn x = true := fun x h => by
  show (scope.names.lookup x == some .cell) = true
  rw [h]
  rfl
theorem de_lc (g : Gd G N sc k W X) (own : List (Str × Nat)) {elt tg iter : Expr} {ifs : List Expr} {pos : Pos} {gg : TG} {dpi : Bool} {is : List Nat} {evI : EvI} {set : En → D → Option En} {t : En → Rs Bool} {ee : EvE} (hi : PI X tg iter (TIv G W F F1 dpi evI)) (ok : BlkOk N sc scope own)
    (hg : ∀ X', Gd G N (rl sc scope) k wF X' → (∀ x, scope.names.lookup x = some .cell → X'.fn x = true) → TgO G X' tg gg (blkF (own.map (·.2)) F1) F2 false is set) (ht : ∀ X', Gd G N (rl sc scope) k wF X' → PTs X' ifs (TTv G wF F2 F3 t)) (he : ∀ X', Gd G N (rl sc scope) k wF X' → PE X' elt (TEv G wF F3 F4 f ee))
    (his : ∀ i, i ∈ is → i ∈ own.map (·.2) := by decide) (hn : f.nb = true := by rfl) (hs : ∀ x, foldedSetIterable iter X.env x = pure x := by intro _; rfl) : PE X (.ListComp elt [⟨tg, iter, ifs, 0⟩] scope pos) (TEv G W F F1 (.uq f.dp) (eLc (own.map (·.2)) evI set t ee)) :=
  pe_imp (pe_lc g.calm (by rw [g.nN]; exact g.nd) hi (by rw [g.nN, g.sc]; exact ok) (fun s H C cl fp => (hg _ g.blk blkFn).pg) (fun s H C cl fp => ht _ g.blk) (fun s H C cl fp => he _ g.blk) hs)
    (lc_core (fun _ _ _ z => z) (hg _ (g.blk (s := X.s_0) (H := X.H_0) (C := 0) (cl := []) (fp := [])) blkFn) (fun _ _ _ z => z) (fun _ _ _ z => z) his hn)
theorem sw_lc {elt : Expr} {gs : List Comprehension} {pos py : Pos} {y : Str} {l : Nat} {env : Env} : swapsWith (.ListComp elt gs scope pos) (some (.Name y py)) l env = pure (env.blockKind == .function && env.kindOf y == some .local && py.line == pos.line && !(scope.names.any fun (n, k) => n == y && (k == .local || k == .cell))) := rfl
theorem sw_lc_yes (g : Gs G N sc k W X) {elt : Expr} {gs : List Comprehension} {pos py : Pos} {y : Str} {l : Nat} (hy : plainLocB sc y = true) (hl : (py.line == pos.line) = true) (hn : (scope.names.any fun (n, k) => n == y && (k == .local || k == .cell)) = false) : swapsWith (.ListComp elt gs scope pos) (some (.Name y py)) l X.env = pure true := by
  rw [sw_lc]
  have hb : X.env.blockKind = .function := by unfold Env.blockKind; rw [g.g.sc, g.kd]; rfl
  have hk : X.env.kindOf y = some .local := plainLocB_loc hy g.g.sc
  rw [hb, hk, hl, hn]
  rfl
theorem ds_asLc (g : Gs G N sc k S.W X) (i : Nat) (own : List (Str × Nat)) {y : Str} {py spos : Pos} {elt tg iter : Expr} {ifs : List Expr} {pos : Pos} {gg : TG} {dpi : Bool} {is : List Nat} {evI : EvI} {set : En → D → Option En} {t : En → Rs Bool} {ee : EvE} (hi : PI X tg iter (TIv G S.W F F1 dpi evI)) (ok : BlkOk N sc scope own)
    (hg : ∀ X', Gd G N (rl sc scope) k wF X' → (∀ x, scope.names.lookup x = some .cell → X'.fn x = true) → TgO G X' tg gg (blkF (own.map (·.2)) F1) F2 false is set) (ht : ∀ X', Gd G N (rl sc scope) k wF X' → PTs X' ifs (TTv G wF F2 F3 t)) (he : ∀ X', Gd G N (rl sc scope) k wF X' → PE X' elt (TEv G wF F3 F4 f ee))
    (his : ∀ i, i ∈ is → i ∈ own.map (·.2) := by decide) (hn : f.nb = true := by rfl) (hN : N[i]? = some y := by rfl) (hy : plainLocB sc y = true := by rfl) (hz : zB F1 i = true := by rfl)
    (hln : (py.line == pos.line) = true := by rfl) (hnn : (scope.names.any fun (n, k) => n == y && (k == .local || k == .cell)) = false := by rfl) (hs : ∀ x, foldedSetIterable iter X.env x = pure x := by intro _; rfl) :
    PS X (.Assign [.Name y py] (.ListComp elt [⟨tg, iter, ifs, 0⟩] scope pos) spos) (TSv G S F (F1.set i (.o f.dp)) (sAs i (eLc (own.map (·.2)) evI set t ee))) :=
  ps_imp (ps_setLc (i := i) g.g.calm (by rw [g.g.nN]; exact g.g.nd) (by rw [g.g.nN]; exact hN) (plainLocB_loc hy g.g.sc) (sw_lc_yes g hy hln hnn) hi (by rw [g.g.nN, g.g.sc]; exact ok) (fun s H C cl fp => (hg _ g.g.blk blkFn).pg) (fun s H C cl fp => ht _ g.g.blk) (fun s H C cl fp => he _ g.g.blk) hs)
    (as_core (f := .uq f.dp) hz rfl (lc_core (fun _ _ _ z => z) (hg _ (g.g.blk (s := X.s_0) (H := X.H_0) (C := 0) (cl := []) (fp := [])) blkFn) (fun _ _ _ z => z) (fun _ _ _ z => z) his hn))
def blkB (N : List Str) (sc scope : Scope) (own : List (Str × Nat)) : Bool :=
  decide (scope.kind = .function) && scope.names.all (fun y => decide (scope.names.lookup y.1 = some y.2)) && own.all (fun p => decide (N[p.2]? = some p.1)) &&
  scope.names.all (fun y => !decide (y.2 = .free) || decide (sc.names.lookup y.1 = some .cell) || decide (sc.names.lookup y.1 = some .free)) &&
  scope.names.all (fun y => !(decide (y.2 = .local) || decide (y.2 = .cell)) || decide (y.1 ∈ own.map (·.1)) || decide (y.1 ∉ N))
theorem blk_by {own : List (Str × Nat)} (h : blkB N sc scope own = true) : BlkOk N sc scope own := by
  simp only [blkB, Bool.and_eq_true, decide_eq_true_eq, List.all_eq_true, Bool.or_eq_true, Bool.not_eq_true', decide_eq_false_iff_not, Bool.or_eq_false_iff] at h
  obtain ⟨⟨⟨⟨h1, h2⟩, h3⟩, h4⟩, h5⟩ := h
  refine ⟨h1, h2, h3, fun y hy e => ?_, fun y hy e => ?_⟩
  · rcases h4 y hy with (z | z) | z
    · exact absurd e z
    · exact .inl z
    · exact .inr z
  · rcases h5 y hy with (z | z) | z
    · rcases e with e | e
      · exact absurd e z.1
      · exact absurd e z.2
    · exact .inl z
    · exact .inr z
end
end Pi
namespace Pi
open PySem PySem.Spec PyProof.Rows L2
section
variable {G : Gb} {S : Se} {W : WX} {N : List Str} {sc scope : Scope} {k : Nat} {X : Cx} {F F1 F2 F3 F4 Fh : List SF} {Fo : List SF} {f f1 f2 : VF} {c : Fr} {en : En} {own own0 : Own} {σ : L2.St} {H H' H0 H1 : Hp}
theorem RL.ints {A : Addr → Prop} {H : Hp} : ∀ l : List Int, RL G A H (l.map D.int) (l.map V.int)
  | [] => rfl
  | z :: l => RL.cons rfl (RL.ints l)
theorem its_at {dp : Bool} {d : D} {ds : List D} {a : Addr} (h : R G (Av c (ow own0) dp) H0 d (.ref a)) (e : itemsL d = some ds) (ok : Ok G (c.pin own0 H0) F en own σ H) : ∃ xs, SqL G.K H a xs ∧ RL G (Av c (ow own) dp) H ds xs := by
  have h2 := R.up (Up.pin ok) _ h
  cases d <;> first | (cases e; done) | skip
  · obtain rfl := Option.some.inj e
    obtain ⟨a', xs, e, _, h1, r⟩ := h2
    cases e
    exact ⟨xs, SqL.of h1, r⟩
  · rename_i l
    obtain rfl := Option.some.inj e
    obtain ⟨a', e, h1⟩ := h2
    cases e
    exact ⟨_, h1.sq, RL.ints l⟩
def enumD : Nat → List D → List D
  | _, [] => []
  | k, d :: ds => .tup [.int k, d] :: enumD (k + 1) ds
theorem enumD_len : ∀ (k : Nat) (l : List D), (enumD k l).length = l.length
  | _, [] => rfl
  | k, _ :: l => congrArg Nat.succ (enumD_len (k + 1) l)
theorem enumD_at : ∀ (k : Nat) (l : List D) (i : Nat), (enumD k l)[i]? = (l[i]?).map fun d => .tup [.int ((k + i : Nat) : Int), d]
  | _, [], i => by simp [enumD]
  | k, d :: l, 0 => by simp [enumD]
  | k, d :: l, i + 1 => by
    rw [show (enumD k (d :: l))[i + 1]? = (enumD (k + 1) l)[i]? from rfl, enumD_at (k + 1) l i, show (d :: l)[i + 1]? = l[i]? from rfl]
    congr 1
    funext d'
    rw [show k + 1 + i = k + (i + 1) by omega]
def oEnum : List D → Option (List D)
  | [d] => (itemsL d).map (enumD 0)
  | _ => none
def iEn (ea : En → Rs (List D)) : EvI := fun en => bnd (ea en) fun ds => ofO (oEnum ds)
theorem di_enum (g : Gd G N sc k W X) {e : Expr} {p pos tpos : Pos} {elts : List Expr} {kk : Nat} {ea : En → Rs (List D)} (hm : G.mg "enumerate" = none) (ha : PA X [e] (TAv G W F F1 [f] ea)) (hn : f.nb = true := by rfl) (hg : glbB sc "enumerate" = true := by rfl) (hs : starEach [e] X.env = [(false, eval e X.env)] := by rfl) :
    PI X (.Tuple elts kk tpos) (.Call (.Name "enumerate" p) [e] [] pos) (TIv G W F F1 f.dp (iEn ea)) := by
  refine pi_imp (pi_enum (glbB_gl hg g.sc) (by rw [g.mg]; exact hm) ha hs) ?_
  rw [g.K]
  rintro σ H Q ⟨c, en, own, ok, m⟩
  refine ⟨c, en, own, ok, m.bnd.imp fun ds hd0 q vs H1 own1 ok1 s1 b1 r1 => ?_⟩
  clear hd0
  obtain ⟨its, e, q⟩ := q.ofO
  obtain ⟨d, r, v, t, rfl, rfl, h1, h2⟩ := r1
  obtain ⟨rfl, rfl⟩ := h2
  obtain ⟨l, el, rfl⟩ := Option.map_eq_some_iff.mp e
  have h1' := h1.r hn
  obtain ⟨a, rfl⟩ := itemsL_ref h1' el
  obtain ⟨xs0, z1, _⟩ := its_at h1' el ok1.pin
  refine ⟨a, xs0, rfl, z1, q _ H1 own1 ok1 s1 b1 ⟨fun {F en own σ H i d} ok hd => ?_, fun {F en own σ H} ok => ?_⟩⟩
  · obtain ⟨xs, hq, hr⟩ := its_at h1' el ok
    rw [enumD_at] at hd
    obtain ⟨d0, hd0, rfl⟩ := Option.map_eq_some_iff.mp hd
    obtain ⟨x, hx, rx⟩ := hr.get hd0
    refine ⟨⟨xs, x, hq, hx⟩, fun y H' z => ?_⟩
    obtain ⟨T, x', rfl, hT, rfl, z⟩ := z
    have := z xs hq
    rw [hx] at this
    cases this
    refine ⟨same_new hT, T, _, rfl, SqT.of upd_same, RL.cons ?_ (RL.cons (R.up (Up.same (same_new hT) fun _ h => h) _ rx) RL.nil)⟩
    show V.int _ = V.int _
    rw [Nat.zero_add]
  · obtain ⟨xs, hq, hr⟩ := its_at h1' el ok
    exact ⟨xs, hq, by rw [hr.len, enumD_len]; exact Nat.le_refl _⟩
def zipD : List D → List D → List D
  | d :: ds, e :: es => .tup [d, e] :: zipD ds es
  | _, _ => []
theorem zipD_len : ∀ l m : List D, (zipD l m).length = min l.length m.length
  | [], _ => by simp [zipD]
  | _ :: _, [] => by simp [zipD]
  | d :: l, e :: m => by simp [zipD, zipD_len l m]
theorem zipD_at : ∀ (l m : List D) (i : Nat) (d : D), (zipD l m)[i]? = some d → ∃ x y, l[i]? = some x ∧ m[i]? = some y ∧ d = .tup [x, y]
  | [], _, i, d, h => by simp [zipD] at h
  | _ :: _, [], i, d, h => by simp [zipD] at h
  | x :: l, y :: m, 0, d, h => by simp [zipD] at h; exact ⟨x, y, rfl, rfl, h.symm⟩
  | x :: l, y :: m, i + 1, d, h => zipD_at l m i d h
def oZip : List D → Option (List D)
  | [d, e] => (itemsL d).bind fun l => (itemsL e).map fun m => zipD l m
  | _ => none
def iZp (ea : En → Rs (List D)) : EvI := fun en => bnd (ea en) fun ds => ofO (oZip ds)
theorem di_zip (g : Gd G N sc k W X) {e e2 : Expr} {p pos tpos : Pos} {elts : List Expr} {kk : Nat} {ea : En → Rs (List D)} (hm : G.mg "zip" = none) (ha : PA X [e, e2] (TAv G W F F1 [f, f2] ea)) (hn : f.nb = true := by rfl) (hn2 : f2.nb = true := by rfl) (hg : glbB sc "zip" = true := by rfl)
    (hs : starEach [e, e2] X.env = (false, eval e X.env) :: starEach [e2] X.env := by rfl) (hpl : (backTo pos (starEach [e2] X.env)).any (·.1) = false := by rfl) :
    PI X (.Tuple elts kk tpos) (.Call (.Name "zip" p) [e, e2] [] pos) (TIv G W F F1 (f.dp && f2.dp) (iZp ea)) := by
  refine pi_imp (pi_zip (glbB_gl hg g.sc) (by rw [g.mg]; exact hm) ha hs hpl) ?_
  rw [g.K]
  rintro σ H Q ⟨c, en, own, ok, m⟩
  refine ⟨c, en, own, ok, m.bnd.imp fun ds hd0 q vs H1 own1 ok1 s1 b1 r1 => ?_⟩
  clear hd0
  obtain ⟨its, e, q⟩ := q.ofO
  obtain ⟨d, r, v, t, rfl, rfl, h1, d2, r2, v2, t2, rfl, rfl, h2, h3⟩ := r1
  obtain ⟨rfl, rfl⟩ := h3
  obtain ⟨l, el, e⟩ := Option.bind_eq_some_iff.mp e
  obtain ⟨l2, el2, rfl⟩ := Option.map_eq_some_iff.mp e
  have h1' := h1.r hn
  have h2' := h2.r hn2
  obtain ⟨a, rfl⟩ := itemsL_ref h1' el
  obtain ⟨a2, rfl⟩ := itemsL_ref h2' el2
  obtain ⟨xs0, z1, _⟩ := its_at h1' el ok1.pin
  obtain ⟨ys0, z2, _⟩ := its_at h2' el2 ok1.pin
  refine ⟨a, a2, xs0, ys0, rfl, z1, z2, q _ H1 own1 ok1 s1 b1 ⟨fun {F en own σ H i d} ok hd => ?_, fun {F en own σ H} ok => ?_⟩⟩
  · obtain ⟨xs, hq, hr⟩ := its_at h1' el ok
    obtain ⟨ys, hq2, hr2⟩ := its_at h2' el2 ok
    obtain ⟨x0, y0, ex, ey, rfl⟩ := zipD_at _ _ _ _ hd
    obtain ⟨x, hx, rx⟩ := hr.get ex
    obtain ⟨y, hy, ry⟩ := hr2.get ey
    refine ⟨⟨xs, ys, x, y, hq, hq2, hx, hy⟩, fun v H' z => ?_⟩
    obtain ⟨T, x', y', rfl, hT, rfl, z3, z4⟩ := z
    have q3 := z3 xs hq
    have q4 := z4 ys hq2
    rw [hx] at q3
    rw [hy] at q4
    cases q3
    cases q4
    exact ⟨same_new hT, T, _, rfl, SqT.of upd_same, RL.cons (R.up (Up.same (same_new hT) fun _ h => h.dpand _) _ rx) (RL.cons (R.up (Up.same (same_new hT) fun _ h => h.dpand' _) _ ry) RL.nil)⟩
  · obtain ⟨xs, hq, hr⟩ := its_at h1' el ok
    obtain ⟨ys, hq2, hr2⟩ := its_at h2' el2 ok
    refine ⟨xs, ys, hq, hq2, ?_⟩
    rw [hr.len, hr2.len, zipD_len]
    omega
def oList : List D → Option D
  | [.lst l] => some (.lst l)
  | [.tup l] => some (.lst l)
  | [.scr l] => some (.lst (l.map .int))
  | _ => none
def foH : List VF → VF
  | [f] => .uq f.dp
  | _ => .uq false
theorem calls_list : CallS G foH (fun xs H Q => ∃ p ys, xs = [.ref p] ∧ (SqL G.K H p ys ∨ SqT G.K H p ys) ∧ ∀ l, H l = none → Q (.ref l) (upd H l (.lst ys))) oList := by
  intro c O H fs ds vs z Q h e q
  match ds, e with
  | [.lst l], e =>
    cases e
    obtain ⟨f, v, rfl, rfl, a, xs, rfl, e1, r1⟩ := h.one
    exact ⟨a, xs, rfl, .inl (SqL.of e1), fun p hp => q.new p _ hp ⟨xs, rfl, r1⟩⟩
  | [.tup l], e =>
    cases e
    obtain ⟨f, v, rfl, rfl, a, xs, rfl, e1, r1⟩ := h.one
    exact ⟨a, xs, rfl, .inr e1, fun p hp => q.new p _ hp ⟨xs, rfl, r1⟩⟩
  | [.scr l], e =>
    cases e
    obtain ⟨f, v, rfl, rfl, a, rfl, e1⟩ := h.one
    exact ⟨a, _, rfl, .inl e1.sq, fun p hp => q.new p _ hp ⟨_, rfl, RL.ints l⟩⟩
theorem de_list (g : Gd G N sc k W X) {p pos : Pos} {e : Expr} {ea : En → Rs (List D)} (hm : G.mg "list" = none) (ha : PA X [e] (TAv G W F F1 [f] ea)) (hx : glbB sc "list" = true := by rfl) (he : starEach [e] X.env = [(false, eval e X.env)] := by rfl) :
    PE X (.Call (.Name "list" p) [e] [] pos) (TEv G W F F1 (.uq f.dp) (eBi oList ea)) :=
  de_callT g.toGv (fo := foH) (T := "list") (by rw [← g.K]; exact call_list_of) calls_list hm (by decide +kernel) ha hx (by decide) he rfl
theorem RL.rg {A : Addr → Prop} {H : Hp} (i j : Int) : RL G A H (irng i (j - i).toNat) (rgV i j) := by
  unfold irng rgV
  generalize (j - i).toNat = n
  have : ∀ l : List Nat, RL G A H (l.map fun z : Nat => D.int (i + z)) (l.map fun z : Nat => V.int (i + (z : Nat))) := fun l => by
    induction l with
    | nil => exact rfl
    | cons z l ih => exact RL.cons rfl ih
  exact this _
end
end Pi
namespace Pi
open PySem PySem.Spec PyProof.Rows L2
section
variable {G : Gb} {S : Se} {W : WX} {N : List Str} {sc scope : Scope} {k : Nat} {X : Cx} {F F1 F2 F3 F4 Fh : List SF} {Fo : List SF} {f f1 f2 : VF} {c : Fr} {en : En} {own own0 : Own} {σ : L2.St} {H H' H0 H1 : Hp}
structure Ccl (G : Gb) (c : Nat) (x : Str) (ks : List Str) : Prop where
  cls : Cls G.K (G.ca c)
  cf : G.cf c = ks
  nd : ks.Nodup
  na : ∀ f, f ∈ ks → NoAttr G.K (G.ca c) f
  gl : G.mg x = some (.ref (G.ca c))
theorem lookup_at {fs : List (Str × V)} : ∀ {ks : List Str} {j : Nat} {f : Str}, fs.map (·.1) = ks → ks.Nodup → ks[j]? = some f → fs.lookup f = (fs.map (·.2))[j]? := by
  induction fs with
  | nil => intro ks j f e _ h; subst e; simp at h
  | cons p fs ih =>
    intro ks j f e nd h
    subst e
    obtain ⟨g, v⟩ := p
    simp only [List.map_cons] at nd h ⊢
    cases j with
    | zero =>
      simp at h
      subst h
      simp [List.lookup]
    | succ j =>
      have h' : (fs.map (·.1))[j]? = some f := by simpa using h
      have ne : ¬ f = g := fun e => (List.nodup_cons.mp nd).1 (by rw [← e]; exact List.mem_of_getElem? h')
      have ne' : (f == g) = false := by simpa using ne
      rw [List.lookup, ne']
      simpa using ih rfl (List.nodup_cons.mp nd).2 h'
theorem lookup_no {fs : List (Str × V)} {m : Str} (h : m ∉ fs.map (·.1)) : fs.lookup m = none := by
  induction fs with
  | nil => rfl
  | cons p fs ih =>
    obtain ⟨g, v⟩ := p
    simp only [List.map_cons, List.mem_cons, not_or] at h
    have : (m == g) = false := by simpa using h.1
    rw [List.lookup, this]
    exact ih h.2
theorem putF_new {f : Str} {v : V} : ∀ {fs : List (Str × V)}, f ∉ fs.map (·.1) → putF f v fs = fs ++ [(f, v)]
  | [], _ => rfl
  | (g, x) :: r, h => by
    simp only [List.map_cons, List.mem_cons, not_or] at h
    rw [putF, if_neg (fun e => h.1 e.symm), putF_new h.2]
    rfl
theorem putF_at {f : Str} {v : V} : ∀ {fs : List (Str × V)} {j : Nat}, (fs.map (·.1)).Nodup → (fs.map (·.1))[j]? = some f → (putF f v fs).map (·.1) = fs.map (·.1) ∧ (putF f v fs).map (·.2) = (fs.map (·.2)).set j v
  | [], j, _, h => by simp at h
  | (g, x) :: r, 0, nd, h => by
    simp at h
    subst h
    rw [putF, if_pos rfl]
    exact ⟨rfl, rfl⟩
  | (g, x) :: r, j + 1, nd, h => by
    simp only [List.map_cons] at nd h
    have h' : (r.map (·.1))[j]? = some f := by simpa using h
    have ne : ¬ g = f := fun e => (List.nodup_cons.mp nd).1 (by rw [e]; exact List.mem_of_getElem? h')
    obtain ⟨q1, q2⟩ := putF_at (v := v) (List.nodup_cons.mp nd).2 h'
    rw [putF, if_neg ne]
    exact ⟨by simp [q1], by simp [q2]⟩
def eFld (c j : Nat) (a : EvE) : EvE := fun en => bnd (a en) fun d => match d with
  | .obj c' l => if c' = c then ofO l[j]? else .error .stuck
  | _ => .error .stuck
theorem de_fld (g : Gv G N sc X) {c0 j : Nat} {x f : Str} {ks : List Str} (C : Ccl G c0 x ks) {o : Expr} {pos : Pos} {eo : EvE} {fv : VF} (he : PE X o (TEv G W F F1 fv eo)) (hj : ks[j]? = some f := by rfl) (hb : attributeBase o f X.env (eval o X.env) = eval o X.env := by rfl) : PE X (.Attribute o f pos) (TEv G W F F1 (.sh fv.dp) (eFld c0 j eo)) := by
  refine pe_imp (pe_fld he hb) ?_
  rintro σ H Q ⟨c, en, own, ok, m⟩
  refine ⟨c, en, own, ok, m.bnd.imp fun d hd0 q v H1 own1 ok1 s1 b1 r1 => ?_⟩
  clear hd0
  cases d <;> first | exact q.elim | skip
  rename_i c' l
  dsimp only at q
  split at q
  · rename_i hc
    subst hc
    obtain ⟨d', ed, q⟩ := q.ofO
    obtain ⟨a, dx, fs, rfl, e1, e2, r⟩ := r1.b
    rw [C.cf] at e2
    have hlen : fs.length = l.length := by rw [← r.len]; simp
    have nd2 : (ks.take l.length).Nodup := C.nd.sublist (List.take_sublist _ _)
    have hjl : j < l.length := (List.getElem?_eq_some_iff.mp ed).1
    obtain ⟨w, hw, rw'⟩ := r.get ed
    refine ⟨a, G.ca c', dx, fs, w, rfl, e1, by rw [g.K]; exact C.cls, by rw [g.K]; exact C.na f (List.mem_of_getElem? hj), ?_, q w H1 own1 ok1 s1 b1 rw'⟩
    rw [lookup_at e2 nd2 (j := j) (f := f) (by rw [List.getElem?_take_of_lt hjl]; exact hj)]
    exact hw
  · exact q.elim
structure MetC (G : Gb) (j : Nat) (c : Nat) (m : Str) (md : Bool) (n : Nat) (fn : List D → Rs D) : Prop where
  ex : ∃ (f : Addr) (fd : FuncData) (ps : List Str), Meth G.K (G.ca c) m f ∧ FnOk G.P G.w G.K G.mg G.base (L2.CX G.P G.w) j f fd ps (spF G md (n + 1) fn) ∧ Binds G.K fd ps []
def tMethS (C : Addr) (m : Str) (sp : Sp) (E : L2.St → XK) (ta : TE) (t : TA) : TE := fun σ H Q => ta σ H fun x H1 => ∃ a dx fs, x = .ref a ∧ H1 a = some (.ins C dx fs) ∧ fs.lookup m = none ∧
  t σ H1 fun vs H2 => sp (x :: vs) H2 Q (E σ)
theorem pe_methSd {X : Cx} {CX : CXT} {k : Nat} {C f : Addr} {fd : FuncData} {ps : List Str} {m : Str} {sp : Sp} {E : L2.St → XK} {o e : Expr} {es : List Expr} {ta : TE} {t : TA} {apos pos : Pos} {pl : Sem Bool} (he : PE X o ta) (c : Cls X.K C) (hm : Meth X.K C m f) (F : FnOk X.prog X.w X.K X.mg X.base CX k f fd ps sp) (hr : Room k X.A) (hb : Binds X.K fd ps []) (hx : ∀ σ, PassesAt CX X σ (E σ)) (ha : PA X (e :: es) t)
    (hst : starEach (e :: es) X.env = (false, eval e X.env) :: starEach es X.env := by rfl) (hpl : (backTo pos (starEach es X.env)).any (·.1) = false := by rfl)
    (ht : eval (.Call (.Attribute o m apos) (e :: es) [] pos) X.env = (do
      let ov ← eval o X.env
      standAt apos.atName
      let (f, first) ← holding [ov] (getMethod ov m pl)
      callWith pos f first (backTo pos (starEach (e :: es) X.env)) (backToKw pos (keywordEach [] X.env))) := by rfl) :
    PE X (.Call (.Attribute o m apos) (e :: es) [] pos) (tMethS C m sp E ta t) := by
  refine ⟨fun pins s σ H Q I h => ?_⟩
  refine PySem.W.methodCall_KW (pl := pl) (thn (he.run pins s σ H _ I h) fun u s1 ⟨x, H1, I1, rx, a, dx, fs, ex, ea, l, q⟩ => ?_) ht
  subst ex
  obtain rfl : u = Value.ref a := rx
  refine getmeth_ok I1 ea c hm l ?_
  refine PySem.W.callWith_K (first := [.ref a]) (h₀ := X.base) I.ok.mod.kin hm.kp (thn (ha.run pos pins s1 σ H1 _ I1 q) fun us s2 ⟨vs, H2, I2, r, q2⟩ => ⟨I2.kIn, ?_⟩) hst hpl
  exact run_fnS (us := .ref a :: us) (vs := .ref a :: vs) F hr hb (hx σ) I2 (.cons rfl r) q2
theorem pe_methSd0 {X : Cx} {CX : CXT} {k : Nat} {C f : Addr} {fd : FuncData} {ps : List Str} {m : Str} {sp : Sp} {E : L2.St → XK} {o : Expr} {ta : TE} {apos pos : Pos} {pl : Sem Bool} (he : PE X o ta) (c : Cls X.K C) (hm : Meth X.K C m f) (F : FnOk X.prog X.w X.K X.mg X.base CX k f fd ps sp) (hr : Room k X.A) (hb : Binds X.K fd ps []) (hx : ∀ σ, PassesAt CX X σ (E σ))
    (ht : eval (.Call (.Attribute o m apos) [] [] pos) X.env = (do
      let ov ← eval o X.env
      standAt apos.atName
      let (f, first) ← holding [ov] (getMethod ov m pl)
      callWith pos f first (backTo pos (starEach [] X.env)) (backToKw pos (keywordEach [] X.env))) := by rfl) :
    PE X (.Call (.Attribute o m apos) [] [] pos) (tMethS C m sp E ta tNil) := by
  refine ⟨fun pins s σ H Q I h => ?_⟩
  refine PySem.W.methodCall_KW (pl := pl) (thn (he.run pins s σ H _ I h) fun u s1 ⟨x, H1, I1, rx, a, dx, fs, ex, ea, l, q⟩ => ?_) ht
  subst ex
  obtain rfl : u = Value.ref a := rx
  refine getmeth_ok I1 ea c hm l ?_
  exact PySem.W.callWith_K0 (first := [.ref a]) I1.kIn hm.kp (run_fnS (us := [.ref a]) (vs := [.ref a]) F hr hb (hx σ) I1 (.cons rfl .nil) q)
def eMeth (c : Nat) (fn : List D → Rs D) (o : EvE) (a : En → Rs (List D)) : EvE := fun en => bnd (o en) fun d => match d with
  | .obj c' l => if c' = c then bnd (a en) fun ds => fn (.obj c' l :: ds) else .error .stuck
  | _ => .error .stuck
theorem meth_core {c0 : Nat} {x m : Str} {ks : List Str} {md : Bool} {n : Nat} {fn : List D → Rs D} {f0 : VF} {fs : List VF} {eo : EvE} {ea : En → Rs (List D)} (C : Ccl G c0 x ks) (hm : m ∉ ks) (hn : fs.length = n) (ha : okArgs md (f0 :: fs) = true) {ta : TE} {t : TA} (h1 : ∀ σ H Q, TEv G W F F1 f0 eo σ H Q → ta σ H Q) (h2 : ∀ σ H Q, TAv G W F1 F2 fs ea σ H Q → t σ H Q) :
    ∀ σ H Q, TEv G W F F2 (VF.ret md) (eMeth c0 fn eo ea) σ H Q → tMethS (G.ca c0) m (spF G md (n + 1) fn) (WE W) ta t σ H Q := by
  rintro σ H Q ⟨c, en, own, ok, m'⟩
  refine h1 _ _ _ ⟨c, en, own, ok, m'.bnd.imp fun d hd0 q v H1 own1 ok1 s1 b1 r1 => ?_⟩
  clear hd0
  cases d <;> first | exact q.elim | skip
  rename_i c' l
  dsimp only at q
  split at q
  · rename_i hc
    subst hc
    obtain ⟨a, dx, fs', rfl, e1, e2, r⟩ := id r1.b
    rw [C.cf] at e2
    obtain ⟨own1', ok1', k1, a1⟩ := RV.arg ok1 r1
    refine ⟨a, dx, fs', rfl, e1, lookup_no (fun z => hm (by rw [e2] at z; exact List.take_subset _ _ z)), h2 _ _ _ ⟨c, en, own1', ok1', q.bnd.imp fun ds _ q vs H2 own2 ok2 s2 b2 r2 => ?_⟩⟩
    have b1' : Sub (ow own) (ow own1') H := fun a h => b1 a (k1 a h)
    have hv : RVL G c (ow own2) H2 (f0 :: fs) (.obj c' l :: ds) (.ref a :: vs) := ⟨_, _, _, _, rfl, rfl, a1.up s2 b2, r2⟩
    refine ⟨by simp [r2.len.2, hn], .obj c' l :: ds, if md = true then fun _ => True else Av c (ow own2) false, ?_, ?_⟩
    · cases md with
      | true => exact hv.any
      | false => exact (hv.rl (by simpa [okArgs] using ha)).an fun a z => z.undp
    · cases e : fn (.obj c' l :: ds) with
      | ok d =>
        rw [e] at q
        intro v H3 s3 r3
        have r3' : RRet G md (Av c (ow own2) false) H2 H3 d v := by cases md <;> exact r3
        obtain ⟨own3, ok3, b3, rv⟩ := ok2.back s3 r3'
        exact q v H3 own3 ok3 ((s1.trans s2).trans s3) (sub_trans (sub_trans b1' s1 b2) (s1.trans s2) b3) rv
      | error x =>
        rw [e] at q
        cases x with
        | stuck => exact q.elim
        | raise x => exact fun H3 s3 => q H3 fun b o nb e => s3 _ _ (ok2.same b o nb e)
  · exact q.elim
theorem de_meth (g : Gd G N sc k W X) {j c0 : Nat} {x m : Str} {ks : List Str} {md : Bool} {n : Nat} {fn : List D → Rs D} {f0 : VF} {fs : List VF} {eo : EvE} {ea : En → Rs (List D)} {o e : Expr} {es : List Expr} {apos pos : Pos} {pl : Sem Bool} (C : Ccl G c0 x ks) (M : MetC G j c0 m md n fn) (he : PE X o (TEv G W F F1 f0 eo)) (ha : PA X (e :: es) (TAv G W F1 F2 fs ea))
    (hj : j ≤ k := by decide) (hm : m ∉ ks := by decide) (hn : fs.length = n := by rfl) (hok : okArgs md (f0 :: fs) = true := by rfl) (hst : starEach (e :: es) X.env = (false, eval e X.env) :: starEach es X.env := by rfl) (hpl : (backTo pos (starEach es X.env)).any (·.1) = false := by rfl)
    (ht : eval (.Call (.Attribute o m apos) (e :: es) [] pos) X.env = (do
      let ov ← eval o X.env
      standAt apos.atName
      let (f, first) ← holding [ov] (getMethod ov m pl)
      callWith pos f first (backTo pos (starEach (e :: es) X.env)) (backToKw pos (keywordEach [] X.env))) := by rfl) :
    PE X (.Call (.Attribute o m apos) (e :: es) [] pos) (TEv G W F F2 (VF.ret md) (eMeth c0 fn eo ea)) := by
  obtain ⟨fa, fd, ps, hM, hF, hb⟩ := M.ex
  exact pe_imp (pe_methSd (pl := pl) he (by rw [g.K]; exact C.cls) (by rw [g.K]; exact hM) (g.fnOk hF) (g.room.mono hj) (by rw [g.K]; exact hb) (fun σ => passAt g.tk σ) ha hst hpl ht) (meth_core C hm hn hok (fun _ _ _ z => z) fun _ _ _ z => z)
theorem de_meth0 (g : Gd G N sc k W X) {j c0 : Nat} {x m : Str} {ks : List Str} {md : Bool} {fn : List D → Rs D} {f0 : VF} {eo : EvE} {o : Expr} {apos pos : Pos} {pl : Sem Bool} (C : Ccl G c0 x ks) (M : MetC G j c0 m md 0 fn) (he : PE X o (TEv G W F F1 f0 eo))
    (hj : j ≤ k := by decide) (hm : m ∉ ks := by decide) (hok : okArgs md [f0] = true := by rfl)
    (ht : eval (.Call (.Attribute o m apos) [] [] pos) X.env = (do
      let ov ← eval o X.env
      standAt apos.atName
      let (f, first) ← holding [ov] (getMethod ov m pl)
      callWith pos f first (backTo pos (starEach [] X.env)) (backToKw pos (keywordEach [] X.env))) := by rfl) :
    PE X (.Call (.Attribute o m apos) [] [] pos) (TEv G W F F1 (VF.ret md) (eMeth c0 fn eo aNil)) := by
  obtain ⟨fa, fd, ps, hM, hF, hb⟩ := M.ex
  exact pe_imp (pe_methSd0 (pl := pl) he (by rw [g.K]; exact C.cls) (by rw [g.K]; exact hM) (g.fnOk hF) (g.room.mono hj) (by rw [g.K]; exact hb) (fun σ => passAt g.tk σ) ht) (meth_core C hm rfl hok (fun _ _ _ z => z) fun σ H Q z => (by
    obtain ⟨c, en, own, ok, m⟩ := z
    exact m [] H own ok (Same.refl H) sub_refl ⟨rfl, rfl⟩))
def tMakeS (C : Addr) (sp : Sp) (E : L2.St → XK) (t : TA) : TE := fun σ H Q => t σ H fun vs H1 => ∀ x dx, H1 x = none → H1 dx = none → dx ≠ x →
  sp (.ref x :: vs) (upd (upd H1 dx (.own x)) x (.ins C dx [])) (fun v H2 => v = .non ∧ Q (.ref x) H2) (E σ)
theorem run_makeSd {X : Cx} {CX : CXT} {k : Nat} {C f : Addr} {fd : FuncData} {ps : List Str} {sp : Sp} {E : L2.St → XK} {pins : List (Addr × Obj)} {σ : L2.St} {H : Hp} {s : Shared} {Q : VK} {us : List Value} {vs : List V} (M : Mk X.K C f) (F : FnOk X.prog X.w X.K X.mg X.base CX k f fd ps sp) (hr : Room (k + 1) X.A) (hb : Binds X.K fd ps [])
    (hx : PassesAt CX X σ (E σ)) (I : Inv X pins σ H s) (r : Vals vs us)
    (h : ∀ x dx, H x = none → H dx = none → dx ≠ x → sp (.ref x :: vs) (upd (upd H dx (.own x)) x (.ins C dx [])) (fun v H2 => v = .non ∧ Q (.ref x) H2) (E σ)) :
    wpAny (model X.prog X.w) X.A (call (.ref C) us) (EP X pins σ Q) X.xe s := by
  have hq := h (s.heap.objs.size + 1) s.heap.objs.size (I.hok.fresh (Nat.le_succ _)) (I.hok.fresh (Nat.le_refl _)) (Nat.ne_of_lt (Nat.lt_succ_self _))
  have I2 := Inv.made (C := C) I
  have r2 : Vals (V.ref (s.heap.objs.size + 1) :: vs) (Value.ref (s.heap.objs.size + 1) :: us) := .cons rfl r
  have hl : ((Value.ref (s.heap.objs.size + 1) :: us) ++ ([] : List Value)).length = ps.length := by
    have e := r2.length
    rw [F.len _ _ _ _ hq] at e
    simpa using e.symm
  have bz := hb { s with heap := (s.heap.push PySem.W.emptyDict).push (PySem.W.instObj C s.heap.objs.size) } (Value.ref (s.heap.objs.size + 1) :: us) I2.kIn hl
  rw [List.append_nil] at bz
  refine wpAny_call (make_map (f := f) I.kIn M.makes M.init (beq_iff_eq.mp M.fn) (codeAny_mono (F.run _ X.stack _ _ ⟨Value.ref (s.heap.objs.size + 1) :: us, []⟩ (Value.ref (s.heap.objs.size + 1) :: us) _ _ (E σ) (hr.make C us [])
    (I2.env0.make C us []) bz r2 hq) fun r s' hq' => ?_))
  cases r with
  | error e => exact hx pins _ _ e s' I2 hq'
  | ok fl =>
    cases fl with
    | ret u =>
      obtain ⟨v, H', I3, rv, ev, q3⟩ := I2.after hq'
      subst ev
      exact ⟨rv, ⟨V.ref (s.heap.objs.size + 1), H', I3, rfl, q3⟩⟩
    | next => exact False.elim hq'
    | brk => exact False.elim hq'
    | cont => exact False.elim hq'
theorem pe_makeSd {X : Cx} {CX : CXT} {k : Nat} {C f : Addr} {fd : FuncData} {ps : List Str} {sp : Sp} {E : L2.St → XK} {x : Str} {p pos : Pos} {e : Expr} {es : List Expr} {t : TA} (M : Mk X.K C f) (F : FnOk X.prog X.w X.K X.mg X.base CX k f fd ps sp) (hr : Room (k + 1) X.A) (hg : Gl X x) (hm : X.mg x = some (.ref C)) (hb : Binds X.K fd ps []) (hx : ∀ σ, PassesAt CX X σ (E σ))
    (ha : PA X (e :: es) t) (hdb : (x == ("__debug__" : Str)) = false := by decide) (he : starEach (e :: es) X.env = (false, eval e X.env) :: starEach es X.env := by rfl) (hpl : (backTo pos (starEach es X.env)).any (·.1) = false := by rfl) :
    PE X (.Call (.Name x p) (e :: es) [] pos) (tMakeS C sp E t) := by
  refine ⟨fun pins s σ H Q I h => ?_⟩
  refine wpAny_Call_Name_kw (ld_glob I hg hm ?_ hdb)
  refine PySem.W.callWith_K (h₀ := X.base) I.ok.mod.kin M.kp (thn (ha.run pos pins s σ H _ I h) fun us s1 ⟨vs, H1, I1, r, q⟩ => ⟨I1.kIn, ?_⟩) he hpl
  exact run_makeSd M F hr hb (hx σ) I1 r q
def setD (l : List D) (j : Nat) (d : D) : List D := if j = l.length then l ++ [d] else l.set j d
end
end Pi
namespace Pi
open PySem PySem.Spec PyProof.Rows L2
section
variable {G : Gb} {S : Se} {W : WX} {N : List Str} {sc scope : Scope} {k : Nat} {X : Cx} {F F1 F2 F3 F4 Fh : List SF} {Fo : List SF} {f f1 f2 : VF} {c : Fr} {en : En} {own own0 : Own} {σ : L2.St} {H H' H0 H1 : Hp}
def sRev (i : Nat) : EvS := fun en => bnd (getL i en) fun l => .ok (.nx (en.set i (some (.lst l.reverse))))
end
end Pi
namespace Pi
open PySem PySem.Spec PyProof.Rows L2
def dK : D → Option Key
  | .int i => some (.inl i)
  | .str x => some (.inr x)
  | _ => none
def dSet : List Key → List D → Key → D → List D
  | x :: ks, d :: l, k, v => (if x = k then v else d) :: dSet ks l k v
  | _, _, _, _ => []
def kIn (ks : List Key) (k : Key) : Bool := ks.any fun x => decide (x = k)
def dPut (ks : List Key) (l : List D) (k : Key) (v : D) : List Key × List D := if kIn ks k = true then (ks, dSet ks l k v) else (ks ++ [k], l ++ [v])
section
variable {G : Gb} {A : Addr → Prop} {H : Hp}
end
section
variable {G : Gb} {S : Se} {W : WX} {N : List Str} {sc scope : Scope} {k : Nat} {X : Cx} {F F1 F2 F3 F4 Fh : List SF} {Fo : List SF} {f f1 f2 : VF} {c : Fr} {en : En} {own own0 : Own} {σ : L2.St} {H H' H0 : Hp}
def getD (i : Nat) (en : En) : Rs (List Key × List D) := match en[i]? with
  | some (some (.dct ks l)) => .ok (ks, l)
  | _ => .error .stuck
def sDSub (i : Nat) (ek ev : EvE) : EvS := fun en => bnd (getD i en) fun p => bnd (ev en) fun d => bnd (ek en) fun kd => bnd (ofO (dK kd)) fun k =>
  if p.1.length < sizeLine then .ok (.nx (en.set i (some (.dct (dPut p.1 p.2 k d).1 (dPut p.1 p.2 k d).2)))) else .error .stuck
end
end Pi
namespace Pi
open PySem PySem.Spec PyProof.Rows L2
def Fr.lk (c : Fr) (d : Addr) (z : HO) : Fr := ⟨fun b => if b = d then (c.H0 d).map fun _ => z else c.H0 b, c.A0, c.S, fun b => if b = d then some z else c.L b, c.vl⟩
section
variable {G : Gb} {S : Se} {W : WX} {N : List Str} {sc scope : Scope} {k : Nat} {X : Cx} {F F1 F2 F3 F4 Fh : List SF} {Fo : List SF} {f f1 f2 : VF} {c : Fr} {en : En} {own own0 own1 : Own} {σ : L2.St} {H H' H0 H1 : Hp} {p : Addr} {od : Obj} {kvs : List (Key × V)} {z : HO}
theorem for_R {J : It} {ds : List D} {dp : Bool} {gg : TG} {tg : Expr} {is : List Nat} {set : En → D → Option En} {eb : EvS} {D : Ends} (ok1 : Ok G c F1 en own1 σ H1) (its : ItS G (c.pin own1 H1) J dp ds) (ht : TgO G X tg gg Fh F2 dp is set) (hw : wkL F1 Fh = true)
    (q : MtS G S.W c (evFor set eb ds en) (Aft G S c Fh D)) : ∃ W : Nat → Nat → L2.St → Hp → Prop, (∃ m, W 0 m σ H1) ∧ ∀ i m σ H, W i m σ H →
  (J.stop i H ∧ D.nx σ H) ∨ (J.go i H ∧ ∃ N : L2.St → Hp → Prop, (∀ σ' H', N σ' H' → ∃ m', m' < m ∧ W (i + 1) m' σ' H') ∧ ∀ x H', J.yld i H x H' → gg x σ H' fun σ2 H2 => TSv G { S with Fc := Fh } F2 Fh eb { D with nx := N, ct := N, bk := D.nx } σ2 H2) := by
  have hlk := ok1.lk
  have okp := ok1.pin
  obtain ⟨own2, ok2, sb, _⟩ := okp.weak hw
  refine ⟨fun i m σ H => m = ds.length - i ∧ i ≤ ds.length ∧ ∃ en own, Ok G (c.pin own1 H1) Fh en own σ H ∧ MtS G S.W c (evFor set eb (ds.drop i) en) (Aft G S c Fh D), ⟨_, rfl, Nat.zero_le _, en, own2, ok2, q⟩, ?_⟩
  rintro i m σ H ⟨rfl, hi, en, own, ok, q⟩
  by_cases hlt : i < ds.length
  · have hd : ds[i]? = some ds[i] := List.getElem?_eq_getElem hlt
    obtain ⟨hgo, hy⟩ := its.go ok hd
    rw [List.drop_eq_getElem_cons hlt] at q
    obtain ⟨en1, e1, q⟩ := MtS.ofO (MtS.bnd q)
    refine .inr ⟨hgo, fun σ' H' => ∃ en own, Ok G (c.pin own1 H1) Fh en own σ' H' ∧ MtS G S.W c (evFor set eb (ds.drop (i + 1)) en) (Aft G S c Fh D), fun σ' H' q' => ⟨_, by omega, rfl, hlt, q'⟩, fun x H' y => ?_⟩
    obtain ⟨sm, r⟩ := hy x H' y
    refine ht.ok (ok.grow sm) r e1 fun σ2 own2 ok2 _ _ => ⟨c.pin own1 H1, en1, own2, ok2, (MtS.bnd q).imp fun fl _ q => ?_⟩
    cases fl with
    | nx en2 => exact fun σ' H' own' ok' => ⟨en2, own', ok', q⟩
    | ct en2 => exact fun σ' H' own' ok' => ⟨en2, own', ok', q⟩
    | rt v => exact fun v' H' sm lkk rr => q v' H' sm (fun a o e => lkk a o (pin_of (hlk a o e).1 (hlk a o e).2)) rr
  · have e : i = ds.length := by omega
    subst e
    rw [List.drop_length] at q
    exact .inl ⟨its.stop ok, q σ H own (ok.unpin hlk)⟩
theorem noR_okS {α : Type} {r : Rs α} {q : α → Prop} (h : MtS G W c (noR r) q) : ∃ a, r = .ok a ∧ q a := by
  cases r with
  | ok a => exact ⟨a, rfl, h⟩
  | error e => exact h.elim
end
end Pi
namespace Pi
open PySem PySem.Spec PyProof.Rows L2
section
variable {G : Gb} {S : Se} {W : WX} {N : List Str} {sc scope : Scope} {k : Nat} {X : Cx} {F F1 F2 F3 F4 Fh : List SF} {Fo : List SF} {f f1 f2 : VF} {c : Fr} {en : En} {own own0 own1 : Own} {σ : L2.St} {H H' H0 H1 : Hp} {vs : List Nat} {p : Addr} {od : Obj} {kvs : List (Key × V)}
end
end Pi
namespace Pi
open PySem PySem.Spec PyProof.Rows L2
section
variable {G : Gb} {S : Se} {W : WX} {N : List Str} {sc scope : Scope} {k : Nat} {X : Cx} {F F1 F2 F3 F4 Fh : List SF} {Fo : List SF} {f f1 f2 : VF} {c : Fr} {en : En} {own own0 own1 : Own} {σ : L2.St} {H H' H0 H1 : Hp}
theorem RL.zip {A : Addr → Prop} : ∀ {l : List D} {ys : List V}, RL G A H l ys → ∀ x, x ∈ ys.zip l → R G A H x.2 x.1
  | [], _, h, x, hx => by simp at hx
  | d :: l, _, ⟨v, r, e, h1, h2⟩, x, hx => by
    subst e
    rcases List.mem_cons.mp hx with e | hx
    · subst e; exact h1
    · exact RL.zip h2 x hx
end
end Pi
namespace Pi
open PySem PySem.Spec PyProof.Rows L2
section
variable {G : Gb} {S : Se} {W : WX} {N : List Str} {sc scope : Scope} {k : Nat} {X : Cx} {F F1 F2 F3 F4 Fh : List SF} {Fo : List SF} {f f1 f2 : VF} {c : Fr} {en : En} {own own0 own1 : Own} {σ : L2.St} {H H' H0 H1 : Hp}
def isSt : D → Bool
  | .str _ => true
  | _ => false
def eM0 (op : D → Option D) (a : EvE) : EvE := fun en => bnd (a en) fun x => if isSt x = true then ofO (op x) else .error .stuck
def eM1 (op : D → D → Option D) (a b : EvE) : EvE := fun en => bnd (a en) fun x => if isSt x = true then bnd (b en) fun y => ofO (op x y) else .error .stuck
def TOv (G : Gb) (W : WX) (F F' : List SF) (ev : En → Rs (Option Int)) : TO := fun σ H Q => ∃ (c : Fr) (en : En) (own : Own), Ok G c F en own σ H ∧
  Mt G W c σ (ev en) fun o => ∀ H' own', Ok G c F' en own' σ H' → Same H H' → Sub (ow own) (ow own') H → Q o H'
def oNo : En → Rs (Option Int) := fun _ => .ok none
def oYes (a : EvE) : En → Rs (Option Int) := fun en => bnd (a en) fun d => match d with
  | .int i => .ok (some i)
  | _ => .error .stuck
theorem po_imp {X : Cx} {e : Option Expr} {t t' : TO} (h : PO X e t) (m : ∀ σ H Q, t' σ H Q → t σ H Q) : PO X e t' := ⟨fun pins s σ H Q I q => h.run pins s σ H Q I (m σ H Q q)⟩
theorem do_no : PO X none (TOv G W F F oNo) := by
  refine po_imp po_none ?_
  rintro σ H Q ⟨c, en, own, ok, m⟩
  exact m H own ok (Same.refl H) sub_refl
theorem do_yes {e : Expr} {ea : EvE} (h : PE X e (TEv G W F F1 f ea)) : PO X (some e) (TOv G W F F1 (oYes ea)) := by
  refine po_imp (po_some h) ?_
  rintro σ H Q ⟨c, en, own, ok, m⟩
  refine ⟨c, en, own, ok, m.bnd.imp fun d hd mx v1 H1 own1 ok1 s1 b1 r1 => ?_⟩
  clear hd
  cases d <;> first | exact mx.elim | skip
  exact ⟨_, r1.int, mx H1 own1 ok1 s1 b1⟩
def cutD (xs : List D) (lo hi : Option Int) : List D := (xs.drop (HT.sIx xs.length 0 lo)).take (HT.sIx xs.length xs.length hi - HT.sIx xs.length 0 lo)
def oSl : D → Option Int → Option Int → Option D
  | .str z, lo, hi => if z.length ≤ sizeLine then some (.str (Txt.slice z lo hi)) else none
  | .lst l, lo, hi => some (.lst (cutD l lo hi))
  | .scr l, lo, hi => some (.lst (cutD (l.map .int) lo hi))
  | _, _, _ => none
def eSl (a : EvE) (lo hi : En → Rs (Option Int)) : EvE := fun en => bnd (a en) fun x => bnd (lo en) fun l => bnd (hi en) fun h => ofO (oSl x l h)
theorem cut_r {A : Addr → Prop} {l : List D} {xs : List V} (h : RL G A H l xs) (lo hi : Option Int) : RL G A H (cutD l lo hi) (cutV xs lo hi) := by
  unfold cutD cutV
  rw [h.len]
  exact RL.take _ (RL.drop _ h)
theorem de_sl (g : Gv G N sc X) {e : Expr} {lo hi : Option Expr} {pos p2 : Pos} {ea : EvE} {el eh : En → Rs (Option Int)} (he : PE X e (TEv G W F F1 f ea)) (hl : PO X lo (TOv G W F1 F2 el)) (hh : PO X hi (TOv G W F2 F3 eh)) :
    PE X (.Subscript e (.Slice lo hi none p2) pos) (TEv G W F F3 (.uq f.dp) (eSl ea el eh)) := by
  refine pe_imp (pe_slice (SlR.or sl_list C8.sl_txt) he hl hh) ?_
  rw [g.K]
  rintro σ H Q ⟨c, en, own, ok, m⟩
  refine ⟨c, en, own, ok, m.bnd.imp fun x hx m v1 H1 own1 ok1 s1 b1 r1 => ⟨c, en, own1, ok1, m.bnd.imp fun l _ m H2 own2 ok2 s2 b2 => ⟨c, en, own2, ok2, m.bnd.imp fun h _ m H3 own3 ok3 s3 b3 => ?_⟩⟩⟩
  clear hx
  obtain ⟨z, ez, q⟩ := m.ofO
  have s12 := s1.trans s2
  have b12 := sub_trans b1 s1 b2
  have kp : Kp G c (ow own3) H3 (.uq f.dp) z Q := ok3.kp fun v H4 own4 ok4 s4 b4 r4 => q v H4 own4 ok4 ((s12.trans s3).trans s4) (sub_trans (sub_trans b12 s12 b3) (s12.trans s3) b4) r4
  have r3 : RB G (Av c (ow own3) f.dp) H3 x v1 := RB.grow r1.b (s2.trans s3) (sub_trans b2 s2 b3)
  cases x <;> first | (cases ez; done) | skip
  · simp only [oSl] at ez
    split at ez
    · rename_i hz
      cases ez
      exact .inr ⟨_, r3, hz, kp.str⟩
    · cases ez
  · cases ez
    obtain ⟨a, xs, rfl, g1, g2⟩ := r3
    exact .inl ⟨a, xs, rfl, SqL.of g1, fun p hp => kp.new p _ hp ⟨_, rfl, cut_r g2 _ _⟩⟩
  · cases ez
    obtain ⟨a, rfl, g1⟩ := r3
    exact .inl ⟨a, _, rfl, g1.sq, fun p hp => kp.new p _ hp ⟨_, rfl, cut_r (RL.ints _) _ _⟩⟩
end
end Pi
namespace Pi
open PySem PySem.Spec PyProof.Rows L2
section
open PySem.SeqAt AutoSeq1 MeetsSeq MeetsSeq2 MeetsSeq3 SeqRoads2
variable {prog : Program} {w : World}
end
section
variable {X : Cx} {pins : List (Addr × Obj)} {σ : L2.St} {H : Hp} {s : Shared}
end
section
variable {G : Gb} {A A' : Addr → Prop} {H : Hp}
end
section
variable {G : Gb}
end
end Pi
namespace Pi
open PySem PySem.Spec PyProof.Rows L2
section
variable {G : Gb} {S : Se} {W : WX} {N : List Str} {sc scope : Scope} {k : Nat} {X : Cx} {F F1 F2 F3 F4 Fh : List SF} {Fo : List SF} {f f1 f2 f3 : VF} {c : Fr} {en : En} {own own0 own1 : Own} {σ : L2.St} {H H' H0 H1 : Hp}
theorem R.b2 {A A' : Addr → Prop} {d : D} {v : V} (h : R G A H d v) (m : ∀ a, A a → A' a) : R G A' H d v := h.an m
def blsL : List D → Option (List Bool)
  | [] => some []
  | .bl x :: l => (blsL l).map (x :: ·)
  | _ :: _ => none
theorem blsL_v {A : Addr → Prop} : ∀ {l : List D} {xs : List Bool} {vs : List V}, blsL l = some xs → RL G A H l vs → vs = xs.map V.bl
  | [], xs, vs, e, h => by cases e; exact h
  | .bl x :: l, xs, vs, e, h => by
    obtain ⟨ys, e1, rfl⟩ := Option.map_eq_some_iff.mp e
    obtain ⟨v, r, rfl, h1, h2⟩ := h
    rw [blsL_v e1 h2, show v = V.bl x from h1]
    rfl
  | .non :: _, _, _, e, _ => by cases e
  | .int _ :: _, _, _, e, _ => by cases e
  | .str _ :: _, _, _, e, _ => by cases e
  | .tup _ :: _, _, _, e, _ => by cases e
  | .lst _ :: _, _, _, e, _ => by cases e
  | .dct _ _ :: _, _, _, e, _ => by cases e
  | .obj _ _ :: _, _, _, e, _ => by cases e
  | .exc _ :: _, _, _, e, _ => by cases e
  | .scr _ :: _, _, _, e, _ => by cases e
def oAll : List D → Option D
  | [.lst l] => (blsL l).map fun bs => .bl (bs.all id)
  | _ => none
theorem calls_all : CallS G foL (rAll G.K) oAll := by
  intro c O H fs ds vs z Q h e q
  match ds, e with
  | [.lst l], e =>
    obtain ⟨ns, e1, rfl⟩ := Option.map_eq_some_iff.mp e
    obtain ⟨f, v, rfl, rfl, a, xs, rfl, g1, g2⟩ := h.one
    have := blsL_v e1 g2
    subst this
    exact ⟨a, ns, rfl, SqL.of g1, q.bl⟩
theorem de_all (g : Gd G N sc k W X) {p pos : Pos} {e : Expr} {ea : En → Rs (List D)} (hm : G.mg "all" = none) (ha : PA X [e] (TAv G W F F1 [f] ea)) (hx : glbB sc "all" = true := by rfl) (he : starEach [e] X.env = [(false, eval e X.env)] := by rfl) : PE X (.Call (.Name "all" p) [e] [] pos) (TEv G W F F1 (.uq true) (eBi oAll ea)) :=
  de_callB g.toGv (fo := foL) (id := "all") (by rw [← g.K]; exact cr_all g.calm) calls_all hm (by decide +kernel) ha hx (by decide) he rfl
end
end Pi
namespace Pi
open PySem PySem.Spec PyProof.Rows L2
section
variable {G : Gb} {S : Se} {W : WX} {N : List Str} {sc scope : Scope} {k : Nat} {X : Cx} {F F1 F2 F3 F4 Fh : List SF} {Fo : List SF} {f f1 f2 : VF} {c : Fr} {en : En} {own own0 own1 : Own} {σ : L2.St} {H H' H0 H1 : Hp} {vs : List Nat} {p : Addr} {od : Obj} {kvs : List (Key × V)}
def tgL (sc : Scope) : List Expr → Bool
  | [] => true
  | .Name x _ :: es => decide (sc.names.lookup x = some .local) && tgL sc es
  | _ => false
theorem dg_namesL (hnN : X.N = N) (hnd : N.Nodup) (hsc : X.env.scope = sc) : ∀ {is : List Nat} {es : List Expr}, tgB N sc F is es = true → tgL sc es = true →
    PGs X es (gNames is) ∧ (assignEach es X.env).length = is.length ∧ (assignEach es X.env).findIdx? (·.1) = none
  | [], [], _, _ => ⟨pgs_nil, rfl, rfl⟩
  | i :: is, .Name x p :: es, h, hl => by
    simp only [tgB, Bool.and_eq_true, decide_eq_true_eq] at h
    simp only [tgL, Bool.and_eq_true, decide_eq_true_eq] at hl
    obtain ⟨ih1, ih2, ih3⟩ := dg_namesL hnN hnd hsc h.2 hl.2
    refine ⟨pgs_cons (pg_name (i := i) (by rw [hnN]; exact hnd) (by rw [hnN]; exact h.1.1.1) (locB_loc h.1.1.2 hsc) (.inr (by rw [hsc]; exact hl.1))) ih1 rfl, ?_, ?_⟩
    · show (assignEach es X.env).length + 1 = is.length + 1
      rw [ih2]
    · show List.findIdx? _ ((false, assign (.Name x p) X.env) :: assignEach es X.env) = none
      rw [List.findIdx?_cons]
      simp [ih3]
  | [], e :: es, h, _ => by cases e <;> cases h
  | i :: is, [], h, _ => by cases h
theorem tg_tupL (g : Gd G N sc k W X) (is : List Nat) {es : List Expr} {n : Nat} {tp : Pos} {dp : Bool} (ht : tgB N sc F is es = true := by rfl) (hp : tgL sc es = true := by rfl) : TgO G X (.Tuple es n tp) (gTup G.K is.length (gNames is)) F (setF F (.s dp) is) dp is (setT is) := by
  obtain ⟨h1, h2, h3⟩ := dg_namesL g.nN g.nd g.sc ht hp
  refine ⟨by rw [← g.K]; exact pg_tup (n := is.length) g.calm h1 h2 h3, fun {c en own σ H d v en' Q} ok r e q => ?_⟩
  cases d <;> first | (cases e; done) | skip
  rename_i ds
  simp only [setT] at e
  split at e
  · rename_i hl
    cases e
    obtain ⟨a, xs, rfl, hq, rl⟩ := r
    exact ⟨a, xs, rfl, hq, by rw [rl.len]; exact hl, names_core2 ht ok rl hl q⟩
  · cases e
end
end Pi
namespace Pi
open PySem PySem.Spec PyProof.Rows L2
section
variable {G : Gb} {S : Se} {W : WX} {N : List Str} {sc scope : Scope} {k : Nat} {X : Cx} {F F1 F2 F3 F4 Fh : List SF} {Fo : List SF} {f f1 f2 : VF} {c : Fr} {en : En} {own own0 own1 : Own} {σ : L2.St} {H H' H0 H1 : Hp}
def tup2B (K : PySem.W.Frag) (a : Addr) (i j : Int) : Bool := match K.lookup a with
  | some o => decide (o.cls = .type "tuple") && (match o.data with
    | .seq its _ => (match its.toList with
      | [.int i' _, .int j' _] => decide (i' = i) && decide (j' = j)
      | _ => false)
    | _ => false)
  | none => false
theorem glo_tup2 {P : Program} {w : World} {K : PySem.W.Frag} {mg : Str → Option Value} {base h : Heap} {cn : List (Str × List Str)} {xs : List Str} (X : K.In h) (Gn : h.Ns mainGlobals mg) {x : Str} {i j : Int} (c : (He.Fa.glo x).ok K = true) (c2 : tup2B K (He.ga K x) i j = true) : Glo (gOf P w K mg base cn xs) x (.tup [.int i, .int j]) := by
  refine ⟨.ref (He.ga K x), .ref (He.ga K x), He.glo_ok X Gn c, rfl, fun A H => ?_⟩
  unfold tup2B at c2
  cases e : K.lookup (He.ga K x) with
  | none => rw [e] at c2; cases c2
  | some o =>
    rw [e] at c2
    simp only [Bool.and_eq_true, decide_eq_true_eq] at c2
    obtain ⟨h1, h2⟩ := c2
    split at h2
    · rename_i its n hd
      split at h2
      · rename_i i' t1 j' t2 hl
        simp only [Bool.and_eq_true, decide_eq_true_eq] at h2
        obtain ⟨rfl, rfl⟩ := h2
        have hs : its.size ≤ sizeLine := by
          have : its.size = 2 := by rw [← Array.length_toList, hl]; rfl
          rw [this]
          decide
        exact ⟨He.ga K x, [.int i', .int j'], rfl, .inr ⟨o, its, n, e, h1, hd, hs, by rw [hl]; exact .cons ⟨t1, rfl⟩ (.cons ⟨t2, rfl⟩ .nil)⟩, RL.cons rfl (RL.cons rfl RL.nil)⟩
      · cases h2
    · cases h2
end
end Pi
noncomputable section
namespace Lk54
open PySem PySem.Spec PyProof.Rows L2 Pi
def top (i : Nat) : Stmt := PySem.Challenge.pw_roadshare_k54_endless_ways.main.body.getD i (.Pass ⟨0, 0, 0, 0⟩)
def xs : List Str := ["NoFraction"]
def cs : List Cl := []
abbrev t__law_drawn : Stmt := top 23
abbrev t__law_cell_at : Stmt := top 22
abbrev t__law_low : Stmt := top 24
abbrev t__law_numbers : Stmt := top 40
abbrev t__law_plus : Stmt := top 25
abbrev t__law_table : Stmt := top 41
abbrev t__law_at_least : Stmt := top 42
abbrev t__law_total : Stmt := top 29
abbrev t__law_times : Stmt := top 27
abbrev t__law_dot : Stmt := top 31
abbrev t__law_less : Stmt := top 26
abbrev t_is_less : Stmt := top 10
abbrev t_divisor : Stmt := top 4
abbrev t_ratio : Stmt := top 6
abbrev t_product_of : Stmt := top 8
abbrev t_times_of : Stmt := top 14
abbrev t_times_row : Stmt := top 15
abbrev t_unit_row : Stmt := top 18
abbrev t_Table___init__ : Stmt := (C8.clsBody (top 19)).getD 0 (.Pass ⟨0, 0, 0, 0⟩)
abbrev t_rest_of : Stmt := top 7
abbrev t_less_of : Stmt := top 16
abbrev t_less_row : Stmt := top 17
abbrev t_Table_costs_row : Stmt := (C8.clsBody (top 19)).getD 1 (.Pass ⟨0, 0, 0, 0⟩)
abbrev t_quotient_of : Stmt := top 9
abbrev t_Table_turned : Stmt := (C8.clsBody (top 19)).getD 2 (.Pass ⟨0, 0, 0, 0⟩)
abbrev t_Table_cleared : Stmt := (C8.clsBody (top 19)).getD 5 (.Pass ⟨0, 0, 0, 0⟩)
abbrev t_Table_place_for : Stmt := (C8.clsBody (top 19)).getD 3 (.Pass ⟨0, 0, 0, 0⟩)
abbrev t_Table_brought_down : Stmt := (C8.clsBody (top 19)).getD 4 (.Pass ⟨0, 0, 0, 0⟩)
abbrev t_Table_solution : Stmt := (C8.clsBody (top 19)).getD 6 (.Pass ⟨0, 0, 0, 0⟩)
abbrev t_Table_prices : Stmt := (C8.clsBody (top 19)).getD 8 (.Pass ⟨0, 0, 0, 0⟩)
abbrev t_Table_way : Stmt := (C8.clsBody (top 19)).getD 7 (.Pass ⟨0, 0, 0, 0⟩)
abbrev t_least : Stmt := top 20
abbrev t__law_under : Stmt := top 28
abbrev t__law_ratio : Stmt := top 30
abbrev t__law_list : Stmt := top 33
abbrev t__law_solves : Stmt := top 34
abbrev t__law_column : Stmt := top 32
abbrev t__law_least : Stmt := top 35
abbrev t__law_none : Stmt := top 36
abbrev t__law_endless : Stmt := top 37
abbrev t__law_holds : Stmt := top 38
abbrev t__law_asked : Stmt := top 39
abbrev t_law : Stmt := top 43
def dd__law_drawn : He.DefD := ⟨("_law_drawn", none), "_law_drawn", "_law_drawn", defArgs t__law_drawn, defBody t__law_drawn, defScope t__law_drawn, [], []⟩
def dd__law_cell_at : He.DefD := ⟨("_law_cell_at", none), "_law_cell_at", "_law_cell_at", defArgs t__law_cell_at, defBody t__law_cell_at, defScope t__law_cell_at, [], []⟩
def dd__law_low : He.DefD := ⟨("_law_low", none), "_law_low", "_law_low", defArgs t__law_low, defBody t__law_low, defScope t__law_low, [], []⟩
def dd__law_numbers : He.DefD := ⟨("_law_numbers", none), "_law_numbers", "_law_numbers", defArgs t__law_numbers, defBody t__law_numbers, defScope t__law_numbers, [], []⟩
def dd__law_plus : He.DefD := ⟨("_law_plus", none), "_law_plus", "_law_plus", defArgs t__law_plus, defBody t__law_plus, defScope t__law_plus, [], []⟩
def dd__law_table : He.DefD := ⟨("_law_table", none), "_law_table", "_law_table", defArgs t__law_table, defBody t__law_table, defScope t__law_table, [], []⟩
def dd__law_at_least : He.DefD := ⟨("_law_at_least", none), "_law_at_least", "_law_at_least", defArgs t__law_at_least, defBody t__law_at_least, defScope t__law_at_least, [], []⟩
def dd__law_total : He.DefD := ⟨("_law_total", none), "_law_total", "_law_total", defArgs t__law_total, defBody t__law_total, defScope t__law_total, [], []⟩
def dd__law_times : He.DefD := ⟨("_law_times", none), "_law_times", "_law_times", defArgs t__law_times, defBody t__law_times, defScope t__law_times, [], []⟩
def dd__law_dot : He.DefD := ⟨("_law_dot", none), "_law_dot", "_law_dot", defArgs t__law_dot, defBody t__law_dot, defScope t__law_dot, [], []⟩
def dd__law_less : He.DefD := ⟨("_law_less", none), "_law_less", "_law_less", defArgs t__law_less, defBody t__law_less, defScope t__law_less, [], []⟩
def dd_is_less : He.DefD := ⟨("is_less", none), "is_less", "is_less", defArgs t_is_less, defBody t_is_less, defScope t_is_less, [], []⟩
def dd_divisor : He.DefD := ⟨("divisor", none), "divisor", "divisor", defArgs t_divisor, defBody t_divisor, defScope t_divisor, [], []⟩
def dd_ratio : He.DefD := ⟨("ratio", none), "ratio", "ratio", defArgs t_ratio, defBody t_ratio, defScope t_ratio, [.int 1], []⟩
def dd_product_of : He.DefD := ⟨("product_of", none), "product_of", "product_of", defArgs t_product_of, defBody t_product_of, defScope t_product_of, [], []⟩
def dd_times_of : He.DefD := ⟨("times_of", none), "times_of", "times_of", defArgs t_times_of, defBody t_times_of, defScope t_times_of, [], []⟩
def dd_times_row : He.DefD := ⟨("times_row", none), "times_row", "times_row", defArgs t_times_row, defBody t_times_row, defScope t_times_row, [], []⟩
def dd_unit_row : He.DefD := ⟨("unit_row", none), "unit_row", "unit_row", defArgs t_unit_row, defBody t_unit_row, defScope t_unit_row, [], []⟩
def dd_Table___init__ : He.DefD := ⟨("Table", some "__init__"), "__init__", "Table.__init__", defArgs t_Table___init__, defBody t_Table___init__, defScope t_Table___init__, [], []⟩
def dd_rest_of : He.DefD := ⟨("rest_of", none), "rest_of", "rest_of", defArgs t_rest_of, defBody t_rest_of, defScope t_rest_of, [], []⟩
def dd_less_of : He.DefD := ⟨("less_of", none), "less_of", "less_of", defArgs t_less_of, defBody t_less_of, defScope t_less_of, [], []⟩
def dd_less_row : He.DefD := ⟨("less_row", none), "less_row", "less_row", defArgs t_less_row, defBody t_less_row, defScope t_less_row, [], []⟩
def dd_Table_costs_row : He.DefD := ⟨("Table", some "costs_row"), "costs_row", "Table.costs_row", defArgs t_Table_costs_row, defBody t_Table_costs_row, defScope t_Table_costs_row, [], []⟩
def dd_quotient_of : He.DefD := ⟨("quotient_of", none), "quotient_of", "quotient_of", defArgs t_quotient_of, defBody t_quotient_of, defScope t_quotient_of, [], []⟩
def dd_Table_turned : He.DefD := ⟨("Table", some "turned"), "turned", "Table.turned", defArgs t_Table_turned, defBody t_Table_turned, defScope t_Table_turned, [], []⟩
def dd_Table_cleared : He.DefD := ⟨("Table", some "cleared"), "cleared", "Table.cleared", defArgs t_Table_cleared, defBody t_Table_cleared, defScope t_Table_cleared, [], []⟩
def dd_Table_place_for : He.DefD := ⟨("Table", some "place_for"), "place_for", "Table.place_for", defArgs t_Table_place_for, defBody t_Table_place_for, defScope t_Table_place_for, [], []⟩
def dd_Table_brought_down : He.DefD := ⟨("Table", some "brought_down"), "brought_down", "Table.brought_down", defArgs t_Table_brought_down, defBody t_Table_brought_down, defScope t_Table_brought_down, [], []⟩
def dd_Table_solution : He.DefD := ⟨("Table", some "solution"), "solution", "Table.solution", defArgs t_Table_solution, defBody t_Table_solution, defScope t_Table_solution, [], []⟩
def dd_Table_prices : He.DefD := ⟨("Table", some "prices"), "prices", "Table.prices", defArgs t_Table_prices, defBody t_Table_prices, defScope t_Table_prices, [], []⟩
def dd_Table_way : He.DefD := ⟨("Table", some "way"), "way", "Table.way", defArgs t_Table_way, defBody t_Table_way, defScope t_Table_way, [], []⟩
def dd_least : He.DefD := ⟨("least", none), "least", "least", defArgs t_least, defBody t_least, defScope t_least, [], []⟩
def dd__law_under : He.DefD := ⟨("_law_under", none), "_law_under", "_law_under", defArgs t__law_under, defBody t__law_under, defScope t__law_under, [], []⟩
def dd__law_ratio : He.DefD := ⟨("_law_ratio", none), "_law_ratio", "_law_ratio", defArgs t__law_ratio, defBody t__law_ratio, defScope t__law_ratio, [], []⟩
def dd__law_list : He.DefD := ⟨("_law_list", none), "_law_list", "_law_list", defArgs t__law_list, defBody t__law_list, defScope t__law_list, [], []⟩
def dd__law_solves : He.DefD := ⟨("_law_solves", none), "_law_solves", "_law_solves", defArgs t__law_solves, defBody t__law_solves, defScope t__law_solves, [], []⟩
def dd__law_column : He.DefD := ⟨("_law_column", none), "_law_column", "_law_column", defArgs t__law_column, defBody t__law_column, defScope t__law_column, [], []⟩
def dd__law_least : He.DefD := ⟨("_law_least", none), "_law_least", "_law_least", defArgs t__law_least, defBody t__law_least, defScope t__law_least, [], []⟩
def dd__law_none : He.DefD := ⟨("_law_none", none), "_law_none", "_law_none", defArgs t__law_none, defBody t__law_none, defScope t__law_none, [], []⟩
def dd__law_endless : He.DefD := ⟨("_law_endless", none), "_law_endless", "_law_endless", defArgs t__law_endless, defBody t__law_endless, defScope t__law_endless, [], []⟩
def dd__law_holds : He.DefD := ⟨("_law_holds", none), "_law_holds", "_law_holds", defArgs t__law_holds, defBody t__law_holds, defScope t__law_holds, [], []⟩
def dd__law_asked : He.DefD := ⟨("_law_asked", none), "_law_asked", "_law_asked", defArgs t__law_asked, defBody t__law_asked, defScope t__law_asked, [], []⟩
def dd_law : He.DefD := ⟨("law", none), "law", "law", defArgs t_law, defBody t_law, defScope t_law, [], []⟩
def fnL : List He.DefD := [dd__law_drawn, dd__law_cell_at, dd__law_low, dd__law_numbers, dd__law_plus, dd__law_table, dd__law_at_least, dd__law_total, dd__law_times, dd__law_dot, dd__law_less, dd_is_less, dd_divisor, dd_ratio, dd_product_of, dd_times_of, dd_times_row, dd_unit_row, dd_Table___init__, dd_rest_of, dd_less_of, dd_less_row, dd_Table_costs_row, dd_quotient_of, dd_Table_turned, dd_Table_cleared, dd_Table_place_for, dd_Table_brought_down, dd_Table_solution, dd_Table_prices, dd_Table_way, dd_least, dd__law_under, dd__law_ratio, dd__law_list, dd__law_solves, dd__law_column, dd__law_least, dd__law_none, dd__law_endless, dd__law_holds, dd__law_asked, dd_law]
def cn : List (Str × List Str) := [("Table", ["wide", "signs", "lines", "heads"])]
def faL : List He.Fa := [.glo "_law_drawn", .glo "_law_cell_at", .glo "_law_low", .glo "_law_numbers", .glo "_law_plus", .glo "_law_table", .glo "_law_at_least", .glo "_law_total", .glo "_law_times", .glo "_law_dot", .glo "_law_less", .glo "is_less", .glo "divisor", .glo "ratio", .glo "product_of", .glo "times_of", .glo "times_row", .glo "unit_row", .mkr "Table", .glo "rest_of", .glo "less_of", .glo "less_row", .meth "Table" "costs_row", .glo "quotient_of", .meth "Table" "turned", .meth "Table" "cleared", .meth "Table" "place_for", .meth "Table" "brought_down", .meth "Table" "solution", .meth "Table" "prices", .meth "Table" "way", .glo "least", .glo "_law_under", .glo "_law_ratio", .glo "_law_list", .glo "_law_solves", .glo "_law_column", .glo "_law_least", .glo "_law_none", .glo "_law_endless", .glo "_law_holds", .glo "_law_asked", .glo "law", .free "abs", .free "all", .free "bool", .free "enumerate", .free "int", .free "isinstance", .free "len", .free "list", .free "min", .free "range", .free "str", .free "tuple", .free "zip", .glo "NoFraction", .exc "NoFraction", .cls "Table", .glo "Table", .noat "Table" "wide", .noat "Table" "signs", .noat "Table" "lines", .noat "Table" "heads", .glo "NOUGHT", .glo "ONE"]
def exL (K : PySem.W.Frag) : Bool := (tup2B K (He.ga K "NOUGHT") 0 1 && tup2B K (He.ga K "ONE") 1 1)
abbrev Rw : PySem.W.OpenRow := PySem.W.OpenLaw.row PySem.Challenge.rw_roadshare_k54_endless_ways
def asL : List Addr := [3, 6, 4, 24, 37, 46, 54, 61, 68, 75, 82, 83, 84, 91, 96, 103, 108, 113, 180, 189, 196, 203, 210, 217, 224, 231, 238, 245, 252, 257, 262, 267, 272, 279, 286, 291, 298, 303, 308, 313, 318, 323, 0, 23, 36, 45, 53, 47, 60, 67, 74, 81, 90, 95, 102, 107, 112, 179, 188, 195, 202, 209, 216, 223, 230, 237, 244, 251, 256, 261, 266, 271, 278, 285, 290, 297, 302, 307, 312, 317, 322, 22, 25, 35, 40, 41, 42, 43, 44, 48, 49, 50, 51, 52, 55, 56, 57, 58, 59, 62, 63, 64, 65, 66, 69, 70, 71, 72, 73, 76, 77, 78, 79, 80, 85, 86, 87, 88, 89, 92, 93, 94, 97, 98, 99, 100, 101, 104, 105, 106, 109, 110, 111, 127, 134, 141, 148, 153, 158, 163, 170, 177, 178, 181, 182, 185, 186, 187, 190, 191, 192, 193, 194, 197, 198, 199, 200, 201, 204, 205, 206, 207, 208, 211, 212, 213, 214, 215, 218, 219, 220, 221, 222, 225, 226, 227, 228, 229, 232, 233, 234, 235, 236, 239, 240, 241, 242, 243, 246, 247, 248, 249, 250, 253, 254, 255, 258, 259, 260, 263, 264, 265, 268, 269, 270, 273, 274, 275, 276, 277, 280, 281, 282, 283, 284, 287, 288, 289, 292, 293, 294, 295, 296, 299, 300, 301, 304, 305, 306, 309, 310, 311, 314, 315, 316, 319, 320, 321, 126, 133, 140, 147, 152, 157, 162, 169, 176, 121, 122, 123, 124, 125, 128, 129, 130, 131, 132, 135, 136, 137, 138, 139, 142, 143, 144, 145, 146, 149, 150, 151, 154, 155, 156, 159, 160, 161, 164, 165, 166, 167, 168, 171, 172, 173, 174, 175]
abbrev hk : PySem.W.Hook := hookQ asL faL fnL exL
def ob (s : PySem.W.SharedT) : He.AlD × Bool := obQ asL faL fnL exL (HandSHeadRun.getT s)
theorem ob_eq (s : PySem.W.SharedT) : ob s = hk.obs s.abs := obQ_eq (HandSHeadRun.getT_eq s)
def loose0 : List PySem.Str := ["ShareError", "NoFraction", "divisor", "ratio", "rest_of", "product_of", "quotient_of", "is_less", "NOUGHT", "ONE", "times_of", "times_row", "less_of", "less_row", "unit_row", "Table", "least", "_law_cell_at", "_law_drawn", "_law_low", "_law_plus", "_law_less", "_law_times", "_law_under", "_law_total", "_law_ratio", "_law_dot", "_law_column", "_law_list", "_law_solves"]
def loose1 : List PySem.Str := ["_law_least", "_law_none", "_law_endless", "_law_holds", "_law_asked", "_law_numbers", "_law_table", "_law_at_least"]
def loose : List PySem.Str := loose0 ++ loose1
theorem run (w : World) : HandSHeadRun.RunEq Rw (PySem.W.view Rw.prog [43]) hk ob 20000 loose w := by
  intro os
  kernel_rfl
end Lk54
end
namespace Pi
open PySem PySem.Spec PyProof.Rows L2
section
variable {X : Cx}
variable {o : Expr} {p pos apos mpos : Pos} {td : TE}
end
section
variable {G : Gb} {S : Se} {W : WX} {N : List Str} {sc scope : Scope} {k : Nat} {X : Cx} {F F1 F2 F3 : List SF} {f f1 f2 : VF} {c : Fr} {en : En} {own : Own} {σ : L2.St} {H H' : Hp}
end
end Pi
namespace Pi
open PySem PySem.Spec PyProof.Rows L2
section
variable {prog : Program} {w : World} {A : Around} {E : Value → Shared → Prop} {s : Shared} {a kS : Addr} {f : Value} {b : Bool} {vs : List Value} {e1 : Nat} {P : PySem.Fin → Shared → Prop}
end
section
variable {K : PySem.W.Frag} {H H' : Hp}
end
section
variable {X : Cx} {pins : List (Addr × Obj)} {s : Shared} {σ : L2.St} {H : Hp} {k : Nat} {f p : Addr} {sp : Sp} {ds : List PyData} {ys : List V}
end
section
variable {G : Gb} {S : Se} {W : WX} {N : List Str} {sc scope : Scope} {k : Nat} {X : Cx} {F F1 F2 : List SF} {f f1 f2 : VF} {c : Fr} {en : En} {own own0 own1 : Own} {σ : L2.St} {H H' H0 H1 : Hp}
theorem RRet.dp {md : Bool} {A0 : Addr → Prop} {d : D} {v : V} (h : RRet G md A0 H H' d v) (hp : pl d 39 = true) : Dp G.K H' v (toP d) := by
  cases md with
  | true =>
    obtain ⟨os, h, _⟩ := h
    exact RB.dp 39 h.b hp
  | false => exact R.dp d ⟨39, hp⟩ v h
end
end Pi
namespace Pi
open PySem PySem.Spec PyProof.Rows L2
section
variable {G : Gb} {S : Se} {W : WX} {N : List Str} {sc scope : Scope} {k : Nat} {X : Cx} {F F1 F2 F3 : List SF} {f f1 f2 : VF} {c : Fr} {en : En} {own own0 own1 : Own} {σ : L2.St} {H H' H0 H1 : Hp}
end
end Pi
namespace Pi
open PySem PySem.Spec PyProof.Rows L2
section
variable {G : Gb} {S : Se} {W : WX} {N : List Str} {sc scope : Scope} {k : Nat} {X : Cx} {F F1 F2 F3 : List SF} {f f1 f2 : VF} {c : Fr} {en : En} {own own0 own1 : Own} {σ : L2.St} {H H' H0 H1 : Hp} {vs : List Nat}
theorem RL.last {A : Addr → Prop} {l : List D} {xs : List V} {z : Int} (h : RL G A H l xs) (e : l.getLast? = some (.int z)) : ∃ ys, xs = ys ++ [.int z] ∧ RL G A H l.dropLast ys := by
  have hne : l ≠ [] := fun q => by rw [q] at e; cases e
  have hl : l = l.dropLast ++ [.int z] := by
    have := List.dropLast_concat_getLast hne
    rw [List.getLast?_eq_some_getLast hne] at e
    rw [← Option.some.inj e]
    exact this.symm
  have h1 := h.get (i := l.length - 1) (d := .int z) (by rw [List.getLast?_eq_getElem?] at e; exact e)
  obtain ⟨x, hx, rx⟩ := h1
  have ex : x = .int z := rx
  subst ex
  have hxl := h.len
  have hpos : 0 < l.length := List.length_pos_iff.mpr hne
  refine ⟨xs.take (l.length - 1), ?_, ?_⟩
  · rw [← hxl] at hx ⊢
    have : xs.take (xs.length - 1 + 1) = xs.take (xs.length - 1) ++ [.int z] := by rw [List.take_add_one, hx]; rfl
    rw [← this, show xs.length - 1 + 1 = xs.length by omega, List.take_length]
  · rw [List.dropLast_eq_take]
    exact h.take _
end
end Pi
namespace Pi
open PySem PySem.Spec PyProof.Rows L2
section
variable {G : Gb} {S : Se} {W : WX} {N : List Str} {sc scope : Scope} {k : Nat} {X : Cx} {F F' F1 F2 F3 : List SF} {f f1 f2 : VF} {c : Fr} {en : En} {own own0 own1 : Own} {σ : L2.St} {H H' H0 H1 : Hp}
theorem dt_view {e : Expr} {t : En → Rs Bool} (h : PT X e (TTv G W F' F1 t)) (w : wkL F F' = true := by rfl) : PT X e (TTv G W F F t) := ⟨fun pins s σ H Q I hw => h.run pins s σ H Q I (by
  obtain ⟨c, en, own, ok, m⟩ := hw
  obtain ⟨own', ok', _, _⟩ := ok.weak w
  exact ⟨c, en, own', ok', m.imp fun b _ q H' own2 ok2 s2 b2 => q H' own (ok.grow s2) s2 sub_refl⟩)⟩
theorem de_view {e : Expr} {ev : EvE} (h : PE X e (TEv G W F' F1 f ev)) (w : wkL F F' = true := by rfl) : PE X e (TEv G W F F (.uq true) (eFl ev)) := by
  refine pe_imp h ?_
  rintro σ H Q ⟨c, en, own, ok, m⟩
  obtain ⟨own', ok', _, _⟩ := ok.weak w
  refine ⟨c, en, own', ok', m.bnd.imp fun d _ q v H1 own1 ok1 s1 b1 r1 => ?_⟩
  split at q
  · rename_i hf
    have r : R G (fun _ => True) H1 d v := r1.b.r
    exact q v H1 own (ok.grow s1) s1 sub_refl ⟨[], flat_uq hf r, fun a h => by cases h⟩
  · exact q.elim
def SF.dp : SF → SF
  | .s _ | .o _ | .z | .dt _ | .ma _ => .s false
  | _ => .n
def deepF (F : List SF) : List SF := F.map SF.dp
theorem deep_ok (ok : Ok G c F en own σ H) : Ok G (Fr.new H fun _ => True) (deepF F) en Own.new σ H := by
  have now : ∀ a, ¬ ow Own.new a := fun a h => by
    rcases h with ⟨i, h⟩ | h
    · cases h
    · exact h
  have all : ∀ a, Av (Fr.new H fun _ => True) (ow Own.new) false a := fun a => ⟨now a, fun z => (nomatch z), .inr trivial⟩
  refine { lF := by rw [← ok.lF]; simp [deepF], lE := ok.lE, same := fun b o _ e => e, tr := fun a h => False.elim h, dj := fun i j a h _ => (nomatch h), dt := fun i a h => (nomatch h), nt := fun a h => False.elim h, nw := fun i a h => (nomatch h), sl := fun i => ?_, lk := fun a o h => (nomatch h) }
  have h := ok.sl i
  unfold Slt at h ⊢
  unfold deepF
  rw [List.getElem?_map]
  cases hF : F[i]? with
  | none => simp
  | some f =>
    rw [hF] at h
    cases he : en[i]? with
    | none => cases f <;> simp [SF.dp]
    | some od =>
      cases od with
      | none => cases f <;> simp [SF.dp]
      | some d =>
        rw [he] at h
        cases f with
        | n => simp [SF.dp]
        | x a => simp [SF.dp]
        | s dp => obtain ⟨x, h1, h2⟩ := h; exact ⟨x, h1, R.an h2 fun a _ => all a⟩
        | o dp => obtain ⟨x, h1, h2⟩ := h; exact ⟨x, h1, RO.r h2 (fun a _ => all a) fun a _ => all a⟩
        | z => obtain ⟨x, h1, h2, _⟩ := h; exact ⟨x, h1, RO.r h2 (fun a _ => all a) fun a _ => all a⟩
        | dt sh => obtain ⟨x, h1, h2, _⟩ := h; exact ⟨x, h1, RS.r d h2 (fun a _ => all a) fun a _ => all a⟩
        | ma sh => obtain ⟨x, h1, h2, _⟩ := h; exact ⟨x, h1, RS.r d h2 (fun a _ => all a) fun a _ => all a⟩
theorem Ok.putS {sh : Sh} {d : D} {v : V} (ok : Ok G c F en own σ H) {i : Nat} (hi : i < F.length) {os : List Addr} (ht : ∀ a, a ∈ os → own.tm a) (nd : os.Nodup) (r : RS G (Av c (ow own) false) H d sh v os) : Ok G c (F.set i (.dt sh)) (en.set i (some d)) (own.put i os) (σ.set i (some v)) H := by
  have hsub : ∀ a, ow (own.put i os) a → ow own a := fun a h => (ow_put h).elim (fun h => .inr (ht a h)) id
  have hσ : i < σ.length := by rw [← ok.lF]; exact hi
  refine ⟨by simpa using ok.lF, by simpa using ok.lE, ok.same, ok.tr, fun j k a h1 h2 => ?_, fun j a h z => ?_, fun a h => ok.nt a h.1, fun j a h => ?_, fun j => ?_, fun a o h => ⟨(ok.lk a o h).1, (ok.lk a o h).2.imp id fun n z => n (hsub a z)⟩⟩
  · unfold Own.put at h1 h2
    dsimp only at h1 h2
    split at h1
    · split at h2
      · rename_i e1 e2; rw [e1, e2]
      · exact absurd (ht a h1) (ok.dt k a h2)
    · split at h2
      · exact absurd (ht a h2) (ok.dt j a h1)
      · exact ok.dj j k a h1 h2
  · have h' := h
    unfold Own.put at h'
    dsimp only at h'
    split at h'
    · exact z.2 h'
    · exact ok.dt j a h' z.1
  · unfold Own.put at h
    dsimp only at h
    split at h
    · exact ⟨(ok.nt a (ht a h)).1, .inl (ok.nt a (ht a h)).2⟩
    · rename_i ne
      obtain ⟨q1, q2⟩ := ok.nw j a h
      exact ⟨q1, q2.imp id fun ⟨q3, q4⟩ => ⟨zf_set (fun e => ne e.symm) q3, q4⟩⟩
  · by_cases e : j = i
    · subst e
      unfold Slt
      rw [List.getElem?_set_self hi, List.getElem?_set_self (by rw [ok.lE]; exact hσ)]
      have es : (own.put j os).sl j = os := if_pos rfl
      refine ⟨v, List.getElem?_set_self hσ, ?_⟩
      rw [es]
      exact ⟨RS.up (Up.sub hsub rfl) _ r (fun _ _ _ z => z), nd⟩
    · have es : (own.put i os).sl j = own.sl j := if_neg e
      have h2 := (ok.sl j).grow (w' := own.put i os) (Same.refl H) es fun a h => .inl (hsub a h)
      unfold Slt at h2 ⊢
      rw [List.getElem?_set_ne (fun z => e z.symm), List.getElem?_set_ne (fun z => e z.symm), List.getElem?_set_ne (fun z => e z.symm)]
      exact h2
mutual
def dis : D → D → Bool
  | .lst l, .lst m => disL l m
  | .int i, .int j => !decide (i = j)
  | .str x, .str y => !decide (x = y)
  | .bl x, .bl y => !decide (x = y)
  | .int _, .lst _ => true
  | .int _, .tup _ => true
  | .str _, .lst _ => true
  | .str _, .tup _ => true
  | .lst _, .int _ => true
  | .tup _, .int _ => true
  | .lst _, .str _ => true
  | .tup _, .str _ => true
  | _, _ => false
def disL : List D → List D → Bool
  | [], [] => false
  | [], _ :: _ => true
  | _ :: _, [] => true
  | a :: l, b :: m => dis a b || disL l m
end
mutual
theorem R.dis {A A' : Addr → Prop} : ∀ (d d' : D) {v : V}, R G A H d v → R G A' H d' v → dis d d' = false
  | .lst l, .lst m, v, ⟨a, xs, e, _, h1, h2⟩, ⟨b, ys, e', _, h3, h4⟩ => by
    rw [e] at e'
    cases e'
    rw [h1] at h3
    cases h3
    unfold Pi.dis
    exact RL.dis l m h2 h4
  | .int i, .int j, v, h, h' => by rw [show v = .int i from h] at h'; cases h'; simp [Pi.dis]
  | .str i, .str j, v, h, h' => by rw [show v = .str i from h] at h'; cases h'; simp [Pi.dis]
  | .bl i, .bl j, v, h, h' => by rw [show v = .bl i from h] at h'; cases h'; simp [Pi.dis]
  | .int _, .lst _, v, h, ⟨a, xs, e, _⟩ => by rw [e] at h; cases h
  | .int _, .tup _, v, h, ⟨a, xs, e, _⟩ => by rw [e] at h; cases h
  | .str _, .lst _, v, h, ⟨a, xs, e, _⟩ => by rw [e] at h; cases h
  | .str _, .tup _, v, h, ⟨a, xs, e, _⟩ => by rw [e] at h; cases h
  | .lst _, .int _, v, ⟨a, xs, e, _⟩, h => by rw [e] at h; cases h
  | .tup _, .int _, v, ⟨a, xs, e, _⟩, h => by rw [e] at h; cases h
  | .lst _, .str _, v, ⟨a, xs, e, _⟩, h => by rw [e] at h; cases h
  | .tup _, .str _, v, ⟨a, xs, e, _⟩, h => by rw [e] at h; cases h
  | .non, _, _, _, _ => by unfold Pi.dis; rfl
  | .dct _ _, _, _, _, _ => by unfold Pi.dis; rfl
  | .obj _ _, _, _, _, _ => by unfold Pi.dis; rfl
  | .exc _, _, _, _, _ => by unfold Pi.dis; rfl
  | .scr _, _, _, _, _ => by unfold Pi.dis; rfl
  | .lst _, .non, _, _, _ => by unfold Pi.dis; rfl
  | .lst _, .bl _, _, _, _ => by unfold Pi.dis; rfl
  | .lst _, .tup _, _, _, _ => by unfold Pi.dis; rfl
  | .lst _, .dct _ _, _, _, _ => by unfold Pi.dis; rfl
  | .lst _, .obj _ _, _, _, _ => by unfold Pi.dis; rfl
  | .lst _, .exc _, _, _, _ => by unfold Pi.dis; rfl
  | .lst _, .scr _, _, _, _ => by unfold Pi.dis; rfl
  | .tup _, .non, _, _, _ => by unfold Pi.dis; rfl
  | .tup _, .bl _, _, _, _ => by unfold Pi.dis; rfl
  | .tup _, .tup _, _, _, _ => by unfold Pi.dis; rfl
  | .tup _, .lst _, _, _, _ => by unfold Pi.dis; rfl
  | .tup _, .dct _ _, _, _, _ => by unfold Pi.dis; rfl
  | .tup _, .obj _ _, _, _, _ => by unfold Pi.dis; rfl
  | .tup _, .exc _, _, _, _ => by unfold Pi.dis; rfl
  | .tup _, .scr _, _, _, _ => by unfold Pi.dis; rfl
  | .int _, .non, _, _, _ => by unfold Pi.dis; rfl
  | .int _, .bl _, _, _, _ => by unfold Pi.dis; rfl
  | .int _, .str _, _, _, _ => by unfold Pi.dis; rfl
  | .int _, .dct _ _, _, _, _ => by unfold Pi.dis; rfl
  | .int _, .obj _ _, _, _, _ => by unfold Pi.dis; rfl
  | .int _, .exc _, _, _, _ => by unfold Pi.dis; rfl
  | .int _, .scr _, _, _, _ => by unfold Pi.dis; rfl
  | .str _, .non, _, _, _ => by unfold Pi.dis; rfl
  | .str _, .bl _, _, _, _ => by unfold Pi.dis; rfl
  | .str _, .int _, _, _, _ => by unfold Pi.dis; rfl
  | .str _, .dct _ _, _, _, _ => by unfold Pi.dis; rfl
  | .str _, .obj _ _, _, _, _ => by unfold Pi.dis; rfl
  | .str _, .exc _, _, _, _ => by unfold Pi.dis; rfl
  | .str _, .scr _, _, _, _ => by unfold Pi.dis; rfl
  | .bl _, .non, _, _, _ => by unfold Pi.dis; rfl
  | .bl _, .str _, _, _, _ => by unfold Pi.dis; rfl
  | .bl _, .int _, _, _, _ => by unfold Pi.dis; rfl
  | .bl _, .lst _, _, _, _ => by unfold Pi.dis; rfl
  | .bl _, .tup _, _, _, _ => by unfold Pi.dis; rfl
  | .bl _, .dct _ _, _, _, _ => by unfold Pi.dis; rfl
  | .bl _, .obj _ _, _, _, _ => by unfold Pi.dis; rfl
  | .bl _, .exc _, _, _, _ => by unfold Pi.dis; rfl
  | .bl _, .scr _, _, _, _ => by unfold Pi.dis; rfl
theorem RL.dis {A A' : Addr → Prop} : ∀ (l m : List D) {xs : List V}, RL G A H l xs → RL G A' H m xs → disL l m = false
  | [], [], _, _, _ => by unfold disL; rfl
  | [], _ :: _, _, h, ⟨x, r, e, _⟩ => by rw [show _ = [] from h] at e; cases e
  | _ :: _, [], _, ⟨x, r, e, _⟩, h => by rw [show _ = [] from h] at e; cases e
  | a :: l, b :: m, _, ⟨x, r, e, h1, h2⟩, ⟨x', r', e', h3, h4⟩ => by
    rw [e] at e'
    cases e'
    unfold disL
    rw [R.dis a b h1 h3, RL.dis l m h2 h4]
    rfl
end
mutual
/-- the lists within, each node once -/
def nodes : D → List D
  | .lst l => .lst l :: nodesL l
  | .tup l => nodesL l
  | _ => []
def nodesL : List D → List D
  | [] => []
  | d :: l => nodes d ++ nodesL l
end
mutual
/-- lists, tuples and flat things alone -/
def ltD : D → Bool
  | .lst l => ltL l
  | .tup l => ltL l
  | .non | .bl _ | .int _ | .str _ => true
  | _ => false
def ltL : List D → Bool
  | [] => true
  | d :: l => ltD d && ltL l
end
def pwD : List D → Bool
  | [] => true
  | d :: l => l.all (fun e => dis d e) && pwD l
inductive Nds (G : Gb) (H : Hp) : List D → List Addr → Prop where
  | nil : Nds G H [] []
  | cons {d : D} {a : Addr} {l : List D} {os : List Addr} : R G (fun _ => True) H d (.ref a) → Nds G H l os → Nds G H (d :: l) (a :: os)
theorem Nds.app {l m : List D} {os os' : List Addr} (h : Nds G H l os) (h' : Nds G H m os') : Nds G H (l ++ m) (os ++ os') := by
  induction h with
  | nil => exact h'
  | cons h1 _ ih => exact .cons h1 ih
theorem Nds.mem {l : List D} {os : List Addr} (h : Nds G H l os) {a : Addr} (ha : a ∈ os) : ∃ d, d ∈ l ∧ R G (fun _ => True) H d (.ref a) := by
  induction h with
  | nil => cases ha
  | cons h1 _ ih =>
    rcases List.mem_cons.mp ha with e | e
    · exact ⟨_, List.mem_cons_self, by rw [e]; exact h1⟩
    · obtain ⟨d, q1, q2⟩ := ih e
      exact ⟨d, List.mem_cons_of_mem _ q1, q2⟩
theorem Nds.nd {l : List D} {os : List Addr} (h : Nds G H l os) : pwD l = true → os.Nodup := by
  induction h with
  | nil => intro _; exact List.nodup_nil
  | @cons d a l os h1 h2 ih =>
    intro p
    simp only [pwD, Bool.and_eq_true] at p
    refine List.nodup_cons.mpr ⟨fun z => ?_, ih p.2⟩
    obtain ⟨d', q1, q2⟩ := h2.mem z
    have := List.all_eq_true.mp p.1 d' q1
    rw [R.dis d d' h1 q2] at this
    cases this
mutual
theorem R.toU {A A' : Addr → Prop} : ∀ (d : D) {v : V}, ltD d = true → R G A H d v → ∃ os, RS G A' H d .u v os ∧ (∀ a, a ∈ os → A a ∧ H a ≠ none) ∧ Nds G H (nodes d) os
  | .tup l, v, f, ⟨a, xs, e, h1, h2⟩ => by
    obtain ⟨os, q1, q2, q3⟩ := RL.toU (A' := A') l (by unfold ltD at f; exact f) h2
    refine ⟨os, ?_, q2, by unfold nodes; exact q3⟩
    unfold RS
    exact ⟨a, xs, e, h1, q1⟩
  | .lst l, v, f, ⟨a, xs, e, h0, h1, h2⟩ => by
    obtain ⟨os, q1, q2, q3⟩ := RL.toU (A' := A') l (by unfold ltD at f; exact f) h2
    refine ⟨a :: os, ?_, fun b hb => ?_, ?_⟩
    · unfold RS
      exact ⟨a, xs, os, e, rfl, h1, q1⟩
    · rcases List.mem_cons.mp hb with z | z
      · rw [z]; exact ⟨h0, by rw [h1]; simp⟩
      · exact q2 b z
    · unfold nodes
      exact .cons ⟨a, xs, rfl, trivial, h1, RL.up (Up.same (Same.refl H) fun _ _ => trivial) l h2⟩ q3
  | .non, v, _, h => ⟨[], by unfold RS; exact ⟨rfl, h⟩, (fun a z => by cases z), by unfold nodes; exact .nil⟩
  | .bl _, v, _, h => ⟨[], by unfold RS; exact ⟨rfl, h⟩, (fun a z => by cases z), by unfold nodes; exact .nil⟩
  | .int _, v, _, h => ⟨[], by unfold RS; exact ⟨rfl, h⟩, (fun a z => by cases z), by unfold nodes; exact .nil⟩
  | .str _, v, _, h => ⟨[], by unfold RS; exact ⟨rfl, h⟩, (fun a z => by cases z), by unfold nodes; exact .nil⟩
  | .dct _ _, _, f, _ => by unfold ltD at f; cases f
  | .obj _ _, _, f, _ => by unfold ltD at f; cases f
  | .scr _, _, f, _ => by unfold ltD at f; cases f
  | .exc _, _, f, _ => by unfold ltD at f; cases f
theorem RL.toU {A A' : Addr → Prop} : ∀ (l : List D) {xs : List V}, ltL l = true → RL G A H l xs → ∃ os, RSP G A' H l .u xs os ∧ (∀ a, a ∈ os → A a ∧ H a ≠ none) ∧ Nds G H (nodesL l) os
  | [], xs, _, h => ⟨[], by unfold RSP; exact ⟨h, rfl⟩, (fun a z => by cases z), by unfold nodesL; exact .nil⟩
  | d :: l, xs, f, ⟨x, r, e, h1, h2⟩ => by
    unfold ltL at f
    simp only [Bool.and_eq_true] at f
    obtain ⟨o1, q1, q2, q3⟩ := R.toU (A' := A') d f.1 h1
    obtain ⟨o2, q4, q5, q6⟩ := RL.toU (A' := A') l f.2 h2
    refine ⟨o1 ++ o2, ?_, fun a ha => (List.mem_append.mp ha).elim (q2 a) (q5 a), by unfold nodesL; exact q3.app q6⟩
    unfold RSP
    exact ⟨x, r, o1, o2, e, rfl, q1, q4⟩
end
theorem RSP.len {A : Addr → Prop} : ∀ (l : List D) {sh : Sh} {xs : List V} {os : List Addr}, RSP G A H l sh xs os → xs.length = l.length
  | [], _, _, _, h => by unfold RSP at h; rw [h.1]; rfl
  | a :: l, _, _, _, h => by
    unfold RSP at h
    obtain ⟨x, r, o1, o2, e1, e2, h1, h2⟩ := h
    rw [e1]
    exact congrArg Nat.succ (RSP.len l h2)
theorem RSP.at {A : Addr → Prop} : ∀ (l : List D) {n : Nat} {d : D} {xs : List V} {os : List Addr}, RSP G A H l .u xs os → l[n]? = some d → ∃ x o1 om o2, os = o1 ++ (om ++ o2) ∧ xs[n]? = some x ∧ RS G A H d .u x om ∧
    ∀ H' d', Up G.K A A H H' → (∀ a o, a ∈ o1 → H a = some o → H' a = some o) → (∀ a o, a ∈ o2 → H a = some o → H' a = some o) → RS G A H' d' .u x om → RSP G A H' (l.set n d') .u xs os
  | [], n, d, xs, os, _, e => by simp at e
  | a :: l, 0, d, xs, os, h, e => by
    unfold RSP at h
    obtain ⟨x, r, o1, o2, e1, e2, h1, h2⟩ := h
    simp at e
    subst e
    refine ⟨x, [], o1, o2, by rw [e2]; rfl, by rw [e1]; rfl, h1, fun H' d' u _ k2 q => ?_⟩
    show RSP G A H' (d' :: l) .u xs os
    unfold RSP
    exact ⟨x, r, o1, o2, e1, e2, q, RSP.up u l h2 k2⟩
  | a :: l, n + 1, d, xs, os, h, e => by
    unfold RSP at h
    obtain ⟨x, r, o1, o2, e1, e2, h1, h2⟩ := h
    obtain ⟨y, p1, pm, p2, q1, q2, q3, q4⟩ := RSP.at l (n := n) (d := d) h2 (by simpa using e)
    refine ⟨y, o1 ++ p1, pm, p2, by rw [e2, q1, List.append_assoc], by rw [e1]; simpa using q2, q3, fun H' d' u k1 k2 q => ?_⟩
    show RSP G A H' (a :: l.set n d') .u xs os
    unfold RSP
    exact ⟨x, r, o1, o2, e1, e2, RS.up u a h1 fun b o z => k1 b o (List.mem_append_left _ z), q4 H' d' u (fun b o z => k1 b o (List.mem_append_right _ z)) k2 q⟩
theorem RSP.snoc {A : Addr → Prop} {d : D} {w : V} (hf : flat d = true) (hd : R G (fun _ => True) H d w) : ∀ (l : List D) {xs : List V} {os : List Addr}, RSP G A H l .u xs os → RSP G A H (l ++ [d]) .u (xs ++ [w]) os
  | [], xs, os, h => by
    unfold RSP at h
    obtain ⟨rfl, rfl⟩ := h
    show RSP G A H [d] .u [w] []
    unfold RSP
    have fl : ∀ (d : D) {w : V}, flat d = true → R G (fun _ => True) H d w → RS G A H d .u w [] := fun d {w} hf hd => by
      have lt : ∀ d : D, flat d = true → ltD d = true ∧ nodes d = [] := fun d => by
        have : (∀ d : D, flat d = true → ltD d = true ∧ nodes d = []) ∧ ∀ l : List D, flat.flatL l = true → ltL l = true ∧ nodesL l = [] := by
          refine ⟨fun d => ?_, fun l => ?_⟩
          · exact D.rec (motive_1 := fun d => flat d = true → ltD d = true ∧ nodes d = []) (motive_2 := fun l => flat.flatL l = true → ltL l = true ∧ nodesL l = [])
              (fun _ => ⟨by unfold ltD; rfl, by unfold nodes; rfl⟩) (fun _ _ => ⟨by unfold ltD; rfl, by unfold nodes; rfl⟩) (fun _ _ => ⟨by unfold ltD; rfl, by unfold nodes; rfl⟩) (fun _ _ => ⟨by unfold ltD; rfl, by unfold nodes; rfl⟩)
              (fun l ih f => by have := ih (by unfold flat at f; exact f); exact ⟨by unfold ltD; exact this.1, by unfold nodes; exact this.2⟩)
              (fun _ _ f => by cases f) (fun _ _ _ f => by cases f) (fun _ _ _ f => by cases f) (fun _ f => by cases f) (fun _ f => by cases f)
              (fun _ => ⟨by unfold ltL; rfl, by unfold nodesL; rfl⟩) (fun d l h1 h2 f => by
                have f' : flat d = true ∧ flat.flatL l = true := by simpa [flat.flatL] using f
                exact ⟨by unfold ltL; rw [(h1 f'.1).1, (h2 f'.2).1]; rfl, by unfold nodesL; rw [(h1 f'.1).2, (h2 f'.2).2]; rfl⟩) d
          · induction l with
            | nil => intro _; exact ⟨by unfold ltL; rfl, by unfold nodesL; rfl⟩
            | cons d l ih =>
              intro f
              have f' : flat d = true ∧ flat.flatL l = true := by simpa [flat.flatL] using f
              have h1 := D.rec (motive_1 := fun d => flat d = true → ltD d = true ∧ nodes d = []) (motive_2 := fun l => flat.flatL l = true → ltL l = true ∧ nodesL l = [])
                (fun _ => ⟨by unfold ltD; rfl, by unfold nodes; rfl⟩) (fun _ _ => ⟨by unfold ltD; rfl, by unfold nodes; rfl⟩) (fun _ _ => ⟨by unfold ltD; rfl, by unfold nodes; rfl⟩) (fun _ _ => ⟨by unfold ltD; rfl, by unfold nodes; rfl⟩)
                (fun l ih f => by have := ih (by unfold flat at f; exact f); exact ⟨by unfold ltD; exact this.1, by unfold nodes; exact this.2⟩)
                (fun _ _ f => by cases f) (fun _ _ _ f => by cases f) (fun _ _ _ f => by cases f) (fun _ f => by cases f) (fun _ f => by cases f)
                (fun _ => ⟨by unfold ltL; rfl, by unfold nodesL; rfl⟩) (fun d l h1 h2 f => by
                  have f' : flat d = true ∧ flat.flatL l = true := by simpa [flat.flatL] using f
                  exact ⟨by unfold ltL; rw [(h1 f'.1).1, (h2 f'.2).1]; rfl, by unfold nodesL; rw [(h1 f'.1).2, (h2 f'.2).2]; rfl⟩) d
              exact ⟨by unfold ltL; rw [(h1 f'.1).1, (ih f'.2).1]; rfl, by unfold nodesL; rw [(h1 f'.1).2, (ih f'.2).2]; rfl⟩
        exact this.1 d
      obtain ⟨os, q1, _, q3⟩ := R.toU (A' := A) d (lt d hf).1 hd
      rw [(lt d hf).2] at q3
      cases q3
      exact q1
    exact ⟨w, [], [], [], rfl, rfl, fl d hf hd, by unfold RSP; exact ⟨rfl, rfl⟩⟩
  | a :: l, xs, os, h => by
    unfold RSP at h
    obtain ⟨x, r, o1, o2, e1, e2, h1, h2⟩ := h
    show RSP G A H (a :: (l ++ [d])) .u _ _
    unfold RSP
    exact ⟨x, r ++ [w], o1, o2, by rw [e1]; rfl, e2, h1, RSP.snoc hf hd l h2⟩
end
end Pi
namespace Pi
open PySem PySem.Spec PyProof.Rows L2
section
variable {G : Gb} {N : List Str} {sc : Scope} {X : Cx}
end
end Pi
namespace Pi
open PySem PySem.Spec PyProof.Rows L2
section
variable {G : Gb} {S : Se} {W : WX} {N : List Str} {sc scope : Scope} {k : Nat} {X : Cx} {F F' F1 F2 F3 : List SF} {f f1 f2 : VF} {c : Fr} {en : En} {own own0 own1 : Own} {σ : L2.St} {H H' H0 H1 : Hp} {p : Addr} {od : Obj} {kvs : List (Key × V)}
end
end Pi
namespace Pi
open PySem PySem.Spec PyProof.Rows L2
section
variable {G : Gb} {S : Se} {W : WX} {N : List Str} {sc scope : Scope} {k : Nat} {X : Cx} {F F' F1 F2 F3 : List SF} {f f1 f2 : VF} {c : Fr} {en : En} {own own0 own1 : Own} {σ : L2.St} {H H' H0 H1 : Hp}
end
end Pi
namespace Pi
open PySem PySem.Spec PyProof.Rows L2
section
variable {G : Gb} {S : Se} {W : WX} {N : List Str} {sc scope : Scope} {k : Nat} {X : Cx} {F F' F1 F2 F3 F4 : List SF} {f f1 f2 : VF} {c : Fr} {en : En} {own own0 own1 : Own} {σ : L2.St} {H H' H0 H1 : Hp} {vs : List Nat}
theorem de_new {e : Expr} {ev : EvE} (h : PE X e (TEv G W (deepF F) F1 (.uq true) ev)) : PE X e (TEv G W F F (.uq true) ev) := by
  refine pe_imp h ?_
  rintro σ H Q ⟨c, en, own, ok, m⟩
  refine ⟨Fr.new H fun _ => True, en, Own.new, deep_ok ok, ?_⟩
  cases q : ev en with
  | error er =>
    rw [q] at m
    cases er with
    | raise k => exact fun H' s => m H' fun b o n e => s b o (fun z => z) (ok.same b o n e)
    | stuck => exact m.elim
  | ok d =>
    rw [q] at m
    intro v H1 own1 ok1 s1 b1 r1
    obtain ⟨os, r0, t0⟩ := r1
    have new : ∀ a, a ∈ os → H a = none := fun a ha => (ok1.nt a (t0 a ha)).2
    have okr := ok.resL s1 (os := os) new r0.at
    refine m v H1 _ okr s1 (sub_resL new) ⟨os, RO.up r0 (Up.same (Same.refl H1) fun a z => ?_) (fun _ _ _ z => z), fun a ha => .inr ha⟩
    have hn : H a = none := z.2.1 rfl
    refine ⟨fun y => ?_, fun _ => ok.free hn, .inl (ok.free hn)⟩
    rcases y with y | y | y
    · exact ok.trk (.inl y) hn
    · exact ok.trk (.inr y) hn
    · exact z.1 (.inr (t0 a y))
end
end Pi
namespace Pi
open PySem PySem.Spec PyProof.Rows L2
section
variable {prog : Program} {w : World} {A : Around} {E : Value → Shared → Prop} {s : Shared}
end
section
variable {prog : Program} {w : World} {A : Around} {E : Value → Shared → Prop} {s : Shared}
end
section
variable {G : Gb} {S : Se} {W : WX} {N : List Str} {sc scope : Scope} {k : Nat} {X : Cx} {F F1 F2 F3 F4 Fh : List SF} {Fo : List SF} {f f1 f2 : VF} {c : Fr} {en : En} {own own0 own1 : Own} {σ : L2.St} {H H' H0 H1 : Hp} {p : Addr} {od : Obj} {kvs : List (Key × V)} {z : HO}
end
end Pi
namespace Pi
open PySem PySem.Spec PyProof.Rows L2
abbrev EvX := En → Rs (D × En)
def TYv (G : Gb) (W : WX) (F F' : List SF) (f : VF) (ev : EvX) : TE := fun σ H Q => ∃ (c : Fr) (en : En) (own : Own), Ok G c F en own σ H ∧
  Mt G W c σ (ev en) fun p => ∀ v H' own', Ok G c F' p.2 own' σ H' → RV G c own' H' f p.1 v → Q v H'
def TBv (G : Gb) (W : WX) (b : Bool) (F Fe : List SF) (st : EvX) : TS := fun D σ H => ∃ (c : Fr) (en : En) (own : Own), Ok G c F en own σ H ∧
  MtS G W c (st en) fun p => (∀ v σ' H' own', Ok G c Fe p.2 own' σ' H' → R G (Av c (ow own') false) H' p.1 v → D.rt v H') ∧ (b = true → p.1 = .non → ∀ σ' H' own', Ok G c Fe p.2 own' σ' H' → D.nx σ' H')
def sB (s : EvS) (t : EvX) : EvX := fun en => bnd (s en) fun fl => match fl with
  | .nx en' => t en'
  | _ => .error .stuck
def xPure (ev : EvE) : EvX := fun en => bnd (ev en) fun d => .ok (d, en)
def sYx (ev : EvX) : EvS := fun en => bnd (ev en) fun p => .ok (.nx p.2)
def sYa (i : Nat) (ev : EvX) : EvS := fun en => bnd (ev en) fun p => .ok (.nx (p.2.set i (some p.1)))
def sStuck : EvS := fun _ => .error .stuck
section
variable {G : Gb} {S : Se} {W : WX} {N : List Str} {sc scope : Scope} {k : Nat} {X : Cx} {F F' F1 F2 F3 F4 Fe Fo : List SF} {f f1 f2 : VF} {c : Fr} {en : En} {own own0 own1 : Own} {σ : L2.St} {H H' H0 H1 : Hp} {vs : List Nat} {b : Bool}
theorem db_nil : PSs X [] (TBv G W true F F fun en => .ok (.non, en)) := by
  refine pss_imp pss_nil ?_
  rintro D σ H ⟨c, en, own, ok, m⟩
  exact m.2 rfl rfl σ H own ok
theorem db_cons {st : Stmt} {rest : List Stmt} {s : EvS} {t : EvX} (h1 : PS X st (TSv G ⟨false, W, []⟩ F F1 s)) (h2 : PSs X rest (TBv G W b F1 Fe t)) : PSs X (st :: rest) (TBv G W b F Fe (sB s t)) := by
  refine pss_imp (pss_cons h1 h2) ?_
  rintro D σ H ⟨c, en, own, ok, m⟩
  refine ⟨c, en, own, ok, m.bnd.imp fun fl _ mf => ?_⟩
  cases fl with
  | nx en' => exact fun σ' H' own' ok' => ⟨c, en', own', ok', mf⟩
  | rt d => exact mf.elim
  | ct en' => exact mf.elim
theorem db_ret {e : Expr} {pos : Pos} {ev : EvX} (he : PE X e (TYv G W F F1 f ev)) (hn : f.nb = true := by rfl) (hw : wkL F1 Fe = true := by rfl) : PSs X [.Return (some e) pos] (TBv G W b F Fe ev) := by
  refine pss_imp (pss_one (ps_ret he)) ?_
  rintro D σ H ⟨c, en, own, ok, m⟩
  refine ⟨c, en, own, ok, m.e.imp fun p _ q v H1 own1 ok1 r1 => ?_⟩
  obtain ⟨own2, ok2, _, r2⟩ := RV.share ok1 r1 hn
  obtain ⟨own3, ok3, sb, _⟩ := ok2.weak hw
  exact q.1 v σ H1 own3 ok3 (R.up (Up.sub sb (by cases f.dp <;> rfl)) _ r2)
theorem dy_e {e : Expr} {ev : EvE} (h : PE X e (TEv G W F F1 f ev)) : PE X e (TYv G W F F1 f (xPure ev)) := by
  refine pe_imp h ?_
  rintro σ H Q ⟨c, en, own, ok, m⟩
  exact ⟨c, en, own, ok, m.bnd.imp fun d _ q v H1 own1 ok1 s1 b1 r1 => q v H1 own1 ok1 r1⟩
theorem db_pre {sts : List Stmt} {s : EvX} (h : PSs X sts (TBv G W b F1 Fe s)) (w : wkL F F1 = true := by rfl) : PSs X sts (TBv G W b F Fe s) := by
  refine pss_imp h ?_
  rintro D σ H ⟨c, en, own, ok, m⟩
  obtain ⟨own2, ok2, _⟩ := ok.weak w
  exact ⟨c, en, own2, ok2, m⟩
theorem ds_yx {e : Expr} {pos : Pos} {ev : EvX} (he : PE X e (TYv G S.W F F1 f ev)) (hs : swapsWith e none pos.line X.env = pure false := by rfl) : PS X (.Expr e pos) (TSv G S F F1 (sYx ev)) := by
  refine ps_imp (ps_expr he hs) ?_
  rintro D σ H ⟨c, en, own, ok, m⟩
  exact ⟨c, en, own, ok, m.bnd.e.imp fun p _ q v H1 own1 ok1 r1 => q σ H1 own1 ok1⟩
theorem ds_ya (g : Gv G N sc X) (hfn : ∀ x, X.fn x = true) (i : Nat) {x : Str} {e : Expr} {pos pos' : Pos} {ev : EvX} (he : PE X e (TYv G S.W F F1 f ev)) (hN : N[i]? = some x := by rfl) (hx : locB sc x = true := by rfl) (hz : zB F1 i = true := by rfl) (hn : f.nb = true := by rfl)
    (hs : swapsWith e (some (.Name x pos')) pos.line X.env = pure false := by rfl) : PS X (.Assign [.Name x pos'] e pos) (TSv G S F (F1.set i f.slot) (sYa i ev)) := by
  refine ps_imp (ps_set (by rw [g.nN]; exact g.nd) (by rw [g.nN]; exact hN) (locB_loc hx g.sc) he hs (.inl (hfn x))) ?_
  rintro D σ H ⟨c, en, own, ok, m⟩
  refine ⟨c, en, own, ok, m.bnd.e.imp fun p _ q v H1 own1 ok1 r1 => ?_⟩
  obtain ⟨h1, h2⟩ := zB_of hz
  obtain ⟨own2, ok2, _⟩ := ok1.put h1 h2 r1 hn
  exact q _ H1 own2 ok2
end
def RSs (G : Gb) (A : Addr → Prop) (H : Hp) (shs : List Sh) (ds : List D) (vs : List V) (os : Nat → List Addr) : Prop :=
  ds.length = shs.length ∧ vs.length = shs.length ∧ ∀ (i : Nat) (sh : Sh) (d : D) (v : V), shs[i]? = some sh → ds[i]? = some d → vs[i]? = some v → RS G A H d sh v (os i) ∧ (os i).Nodup
def Apt (k : Nat) (os : Nat → List Addr) : Prop := (∀ i j a, a ∈ os i → a ∈ os j → i = j) ∧ ∀ i, k ≤ i → os i = []
def inO (os : Nat → List Addr) (a : Addr) : Prop := ∃ i, a ∈ os i
def spX (G : Gb) (shs : List Sh) (n : Nat) (fn : List D → Rs D) : Sp := fun vs H Q E => vs.length = n ∧ ∃ (dsX dsR : List D) (vsX vsR : List V) (os : Nat → List Addr) (A : Addr → Prop), vs = vsX ++ vsR ∧ RSs G A H shs dsX vsX os ∧ Apt shs.length os ∧ (∀ a, A a → ¬ inO os a) ∧ RL G A H dsR vsR ∧
  match fn (dsX ++ dsR) with
  | .ok (.tup (r :: news)) => ∀ v H' os', (∀ b o, ¬ inO os b → H b = some o → H' b = some o) → (∀ a, inO os a → H' a ≠ none) → Apt shs.length os' → (∀ a, inO os' a → H' a ≠ none ∧ (inO os a ∨ H a = none)) →
      RSs G (fun a => ¬ inO os' a ∧ (H a = none ∨ inO os a ∨ A a)) H' shs news vsX os' → R G (fun a => ¬ inO os' a ∧ (H a = none ∨ inO os a ∨ A a)) H' r v → Q v H'
  | .error (.raise e) => ∀ H', Same H H' → E (.ref (G.xa e)) none H'
  | _ => False
def grab : Nat → En → Option (List D)
  | 0, _ => some []
  | k + 1, some d :: en => (grab k en).map (d :: ·)
  | _ + 1, _ => none
theorem grab_at : ∀ {k : Nat} {en : En} {ds : List D}, grab k en = some ds → ds.length = k ∧ ∀ (i : Nat) (d : D), ds[i]? = some d → en[i]? = some (some d)
  | 0, en, ds, h => by cases h; exact ⟨rfl, fun i d h => by simp at h⟩
  | k + 1, [], ds, h => by cases h
  | k + 1, none :: en, ds, h => by cases h
  | k + 1, some d :: en, ds, h => by
    obtain ⟨r, e1, rfl⟩ := Option.map_eq_some_iff.mp h
    obtain ⟨h1, h2⟩ := grab_at e1
    refine ⟨by simp [h1], fun i d' hi => ?_⟩
    cases i with
    | zero => simpa using hi
    | succ i => exact h2 i d' (by simpa using hi)
def runX (k m : Nat) (stB : EvS) (stM : EvX) (ds : List D) : Rs D := match stB (ds.map some ++ List.replicate m none) with
  | .error (.raise e) => .error (.raise e)
  | _ => match stM (ds.map some ++ List.replicate m none) with
    | .ok p => match grab k p.2 with
      | some news => .ok (.tup (p.1 :: news))
      | none => .error .stuck
    | .error _ => .error .stuck
def FX (shs : List Sh) (n m : Nat) : List SF := shs.map .ma ++ List.replicate (n - shs.length) (.s false) ++ List.replicate m .n
open Classical in
noncomputable def Fr.cut (H : Hp) (A : Addr → Prop) (os : Nat → List Addr) (vl : Nat → Option V) : Fr := ⟨fun a => if inO os a then none else H a, A, inO os, fun _ => none, vl⟩
section
variable {G : Gb} {H H' : Hp} {A : Addr → Prop} {os os' : Nat → List Addr} {shs : List Sh} {dsX dsR : List D} {vsX vsR : List V} {vl : Nat → Option V}
theorem cut_none {a : Addr} : (Fr.cut H A os vl).H0 a = none ↔ inO os a ∨ H a = none := by
  unfold Fr.cut
  dsimp only
  by_cases h : inO os a
  · rw [if_pos h]; exact ⟨fun _ => .inl h, fun _ => rfl⟩
  · rw [if_neg h]; exact ⟨fun z => .inr z, fun z => z.resolve_left h⟩
theorem startX {n m : Nat} {N : List Str} (hN : N.length = n + m) (hv : (vsX ++ vsR).length = n) (hX : RSs G A H shs dsX vsX os) (ha : Apt shs.length os) (hA : ∀ a, A a → ¬ inO os a) (r : RL G A H dsR vsR) :
    Ok G (Fr.cut H A os fun i => if i < shs.length then vsX[i]? else none) (FX shs n m) ((dsX ++ dsR).map some ++ List.replicate m none) ⟨os, fun _ => False⟩ (L2.start N (vsX ++ vsR)) H := by
  obtain ⟨x1, x2, x3⟩ := hX
  have lR : dsR.length = vsR.length := r.len.symm
  have hd : (dsX ++ dsR).length = n := by rw [List.length_append, x1, lR, ← x2, ← List.length_append]; exact hv
  have hk : shs.length ≤ n := by rw [← x1]; rw [List.length_append] at hd; omega
  have hl : (L2.start N (vsX ++ vsR)).length = n + m := by
    unfold L2.start
    rw [List.length_append, List.length_map, List.length_replicate, hN, hv]
    omega
  have owi : ∀ a, ow (⟨os, fun _ => False⟩ : Own) a → inO os a := fun a h => h.elim id fun z => z.elim
  have atX : ∀ i a, a ∈ os i → H a ≠ none := fun i a hi => by
    have hik : i < shs.length := Nat.lt_of_not_le fun z => by rw [ha.2 i z] at hi; cases hi
    obtain ⟨h1, _⟩ := x3 i shs[i] (dsX[i]'(by omega)) (vsX[i]'(by omega)) (List.getElem?_eq_getElem hik) (List.getElem?_eq_getElem (by omega)) (List.getElem?_eq_getElem (by omega))
    obtain ⟨o, e, _⟩ := RS.wr _ h1 a hi
    rw [e]
    simp
  have av : ∀ a, A a → Av (Fr.cut H A os fun i => if i < shs.length then vsX[i]? else none) (ow ⟨os, fun _ => False⟩) false a := fun a h => ⟨fun z => hA a h (owi a z), (fun z => by cases z), .inr h⟩
  refine { lF := ?_, lE := ?_, same := fun b o _ e => ?_, tr := fun a ⟨i, hi⟩ => atX i a hi, dj := ha.1, dt := fun i a _ z => z, nt := fun a h => False.elim h, nw := fun i a h => ⟨atX i a h, .inl (cut_none.mpr (.inl ⟨i, h⟩))⟩, sl := fun i => ?_, lk := fun a o h => by cases h }
  · rw [hl]
    unfold FX
    rw [List.length_append, List.length_append, List.length_map, List.length_replicate, List.length_replicate]
    omega
  · rw [hl, List.length_append, List.length_map, List.length_replicate, hd]
  · unfold Fr.cut at e
    dsimp only at e
    split at e
    · cases e
    · exact e
  unfold Slt
  have σi : ∀ {v : V}, (vsX ++ vsR)[i]? = some v → (L2.start N (vsX ++ vsR))[i]? = some (some v) := fun {v} h => by
    have := (List.getElem?_eq_some_iff.mp h).1
    unfold L2.start
    rw [List.getElem?_append_left (by simpa using this), List.getElem?_map, h]
    rfl
  have eni : ∀ {d : D}, (dsX ++ dsR)[i]? = some d → ((dsX ++ dsR).map some ++ List.replicate m none)[i]? = some (some d) := fun {d} h => by
    have := (List.getElem?_eq_some_iff.mp h).1
    rw [List.getElem?_append_left (by simpa using this), List.getElem?_map, h]
    rfl
  by_cases h1 : i < shs.length
  · have e1 : (FX shs n m)[i]? = some (.ma shs[i]) := by
      unfold FX
      rw [List.append_assoc, List.getElem?_append_left (by simpa using h1), List.getElem?_map, List.getElem?_eq_getElem h1]
      rfl
    have e2 : (dsX ++ dsR)[i]? = some (dsX[i]'(by omega)) := by rw [List.getElem?_append_left (by omega)]; exact List.getElem?_eq_getElem (by omega)
    have e3 : (vsX ++ vsR)[i]? = some (vsX[i]'(by omega)) := by rw [List.getElem?_append_left (by omega)]; exact List.getElem?_eq_getElem (by omega)
    obtain ⟨q1, q2⟩ := x3 i shs[i] (dsX[i]'(by omega)) (vsX[i]'(by omega)) (List.getElem?_eq_getElem h1) (List.getElem?_eq_getElem (by omega)) (List.getElem?_eq_getElem (by omega))
    rw [e1, eni e2]
    refine ⟨_, σi e3, RS.up (Up.same (Same.refl H) av) _ q1 (fun _ _ _ z => z), q2, ?_⟩
    show (if i < shs.length then vsX[i]? else none) = _
    rw [if_pos h1]
    exact List.getElem?_eq_getElem (by omega)
  · by_cases h2 : i < n
    · have e1 : (FX shs n m)[i]? = some (.s false) := by
        unfold FX
        rw [List.append_assoc, List.getElem?_append_right (by simpa using h1), List.length_map, List.getElem?_append_left (by rw [List.length_replicate]; omega), List.getElem?_replicate, if_pos (by omega)]
      have hR : i - shs.length < dsR.length := by rw [List.length_append, x1] at hd; omega
      obtain ⟨x, hx, rx⟩ := r.get (List.getElem?_eq_getElem hR)
      have e2 : (dsX ++ dsR)[i]? = some dsR[i - shs.length] := by rw [List.getElem?_append_right (by omega), x1]; exact List.getElem?_eq_getElem hR
      have e3 : (vsX ++ vsR)[i]? = some x := by rw [List.getElem?_append_right (by omega), x2]; exact hx
      rw [e1, eni e2]
      exact ⟨x, σi e3, R.up (Up.same (Same.refl H) av) _ rx⟩
    · have e1 : (FX shs n m)[i]? = some .n ∨ (FX shs n m)[i]? = none := by
        unfold FX
        rw [List.append_assoc, List.getElem?_append_right (by simpa using h1), List.length_map, List.getElem?_append_right (by rw [List.length_replicate]; omega), List.getElem?_replicate]
        split
        · exact .inl rfl
        · exact .inr rfl
      rcases e1 with e | e <;> rw [e] <;> simp
end
section
variable {G : Gb}
theorem fn_okX {x qual : Str} {params : Arguments} {body : List Stmt} {sc : Scope} {dvs : List V} {kws : List (Str × V)} {f : Addr} {fd : FuncData} {N ps : List Str} {k n m : Nat} {shs : List Sh} {stB : EvS} {stM : EvX} {Fo Fe : List SF} (F : FunD G.K x qual params body sc dvs kws f fd) (S : FnScope N ps sc) (hp : ps.length = n) (hN : N.length = n + m)
    (hB : ∀ (X : Cx) (W : WX), Gs G N sc k W X → PSs X body (TSv G ⟨false, W, []⟩ (F0 n m) Fo stB)) (hM : ∀ (X : Cx) (W : WX), Gs G N sc k W X → PSs X body (TBv G W true (FX shs n m) Fe stM))
    (hFe : ∀ (i : Nat) (sh : Sh), shs[i]? = some sh → Fe[i]? = some (.ma sh)) : FnOk G.P G.w G.K G.mg G.base (L2.CX G.P G.w) (k + 1) f fd ps (spX G shs n (runX shs.length m stB stM)) := by
  refine F.ok S (fun vs H Q E h => by rw [hp]; exact h.1) fun cdv A outer s H vs Q E hr h => ?_
  obtain ⟨hv, dsX, dsR, vsX, vsR, os, A0, rfl, hX, ha, hA, r, q⟩ := h
  have goM : (match (match stM ((dsX ++ dsR).map some ++ List.replicate m none) with
      | .ok p => (match grab shs.length p.2 with
        | some news => .ok (.tup (p.1 :: news))
        | none => .error .stuck : Rs D)
      | .error _ => .error .stuck) with
    | .ok (.tup (r :: news)) => ∀ v H' os', (∀ b o, ¬ inO os b → H b = some o → H' b = some o) → (∀ a, inO os a → H' a ≠ none) → Apt shs.length os' → (∀ a, inO os' a → H' a ≠ none ∧ (inO os a ∨ H a = none)) →
      RSs G (fun a => ¬ inO os' a ∧ (H a = none ∨ inO os a ∨ A0 a)) H' shs news vsX os' → R G (fun a => ¬ inO os' a ∧ (H a = none ∨ inO os a ∨ A0 a)) H' r v → Q v H'
    | .error (.raise e) => ∀ H', Same H H' → E (.ref (G.xa e)) none H'
    | _ => False) → ∃ t, PSs (cxOf (L2.CX G.P G.w) G.P G.w G.K G.mg G.base N qual sc f cdv A outer s H E) body t ∧ t { nx := fun _ H' => Q .non H', rt := Q } (L2.start N (vsX ++ vsR)) H := by
    intro q
    refine ⟨_, hM _ _ (gs_of S.nd S.kind hr), _, _, _, startX hN hv hX ha hA r, ?_⟩
    cases eM : stM ((dsX ++ dsR).map some ++ List.replicate m none) with
    | error er => rw [eM] at q; exact q.elim
    | ok p =>
      rw [eM] at q
      dsimp only at q
      cases eg : grab shs.length p.2 with
      | none => rw [eg] at q; exact q.elim
      | some news =>
        rw [eg] at q
        dsimp only at q
        obtain ⟨g1, g2⟩ := grab_at eg
        have fin : ∀ v σ' H' own', Ok G (Fr.cut H A0 os fun i => if i < shs.length then vsX[i]? else none) Fe p.2 own' σ' H' → R G (Av (Fr.cut H A0 os fun i => if i < shs.length then vsX[i]? else none) (ow own') false) H' p.1 v → Q v H' := fun v σ' H' own' ok' r' => by
          have in' : ∀ a, inO (fun i => if i < shs.length then own'.sl i else []) a → ∃ i, i < shs.length ∧ a ∈ own'.sl i := fun a ⟨i, hi⟩ => by
            dsimp only at hi
            split at hi
            · exact ⟨i, by assumption, hi⟩
            · cases hi
          have avm : ∀ a, Av (Fr.cut H A0 os fun i => if i < shs.length then vsX[i]? else none) (ow own') false a → ¬ inO (fun i => if i < shs.length then own'.sl i else []) a ∧ (H a = none ∨ inO os a ∨ A0 a) := fun a z => by
            refine ⟨fun y => ?_, ?_⟩
            · obtain ⟨i, _, hi⟩ := in' a y
              exact z.1 (.inl ⟨i, hi⟩)
            · rcases z.2.2 with y | y
              · exact (cut_none.mp y).elim (fun y => .inr (.inl y)) .inl
              · exact .inr (.inr y)
          refine q v H' (fun i => if i < shs.length then own'.sl i else []) (fun b o nb e => ok'.same b o nb ?_) (fun a z => ok'.tr a z) ⟨fun i j a h1 h2 => ?_, fun i hi => if_neg (by omega)⟩ (fun a z => ?_) ⟨g1, hX.2.1, fun i sh d v hs hd hv' => ?_⟩ (R.up (Up.same (Same.refl H') avm) _ r')
          · unfold Fr.cut
            dsimp only
            rw [if_neg nb]
            exact e
          · dsimp only at h1 h2
            split at h1
            · split at h2
              · exact ok'.dj i j a h1 h2
              · cases h2
            · cases h1
          · obtain ⟨i, hk, hi⟩ := in' a z
            obtain ⟨q1, q2⟩ := ok'.nw i a hi
            exact ⟨q1, cut_none.mp (q2.resolve_right fun z => by
              have := z.1
              rw [hFe i shs[i] (List.getElem?_eq_getElem hk)] at this
              exact this)⟩
          · have hi : i < shs.length := (List.getElem?_eq_some_iff.mp hs).1
            have sl := ok'.sl i
            unfold Slt at sl
            rw [hFe i sh hs, g2 i d hd] at sl
            obtain ⟨x, _, h2, h3, h4⟩ := sl
            have ex : x = v := by
              have h4' : (if i < shs.length then vsX[i]? else none) = some x := h4
              rw [if_pos hi, hv'] at h4'
              exact (Option.some.inj h4').symm
            subst ex
            show RS G _ H' d sh x (if i < shs.length then own'.sl i else []) ∧ (if i < shs.length then own'.sl i else []).Nodup
            rw [if_pos hi]
            exact ⟨RS.up (Up.same (Same.refl H') avm) _ h2 (fun _ _ _ z => z), h3⟩
        exact ⟨fun v σ' H' own' ok' r' => fin v σ' H' own' ok' r', fun _ en σ' H' own' ok' => fin .non σ' H' own' ok' (by rw [en]; rfl)⟩
  unfold runX at q
  cases eB : stB ((dsX ++ dsR).map some ++ List.replicate m none) with
  | ok fl => rw [eB] at q; exact goM q
  | error er =>
    cases er with
    | stuck => rw [eB] at q; exact goM q
    | raise e =>
      rw [eB] at q
      obtain ⟨x1, x2, x3⟩ := hX
      have rX : RL G (fun _ => True) H dsX vsX := by
        have key : ∀ (shs : List Sh) (ds : List D) (vs : List V) (os : Nat → List Addr), ds.length = shs.length → vs.length = shs.length → (∀ (i : Nat) (sh : Sh) (d : D) (v : V), shs[i]? = some sh → ds[i]? = some d → vs[i]? = some v → RS G A0 H d sh v (os i) ∧ (os i).Nodup) → RL G (fun _ => True) H ds vs := by
          intro shs
          induction shs with
          | nil =>
            intro ds vs os h1 h2 _
            rw [List.length_eq_zero_iff.mp h1, List.length_eq_zero_iff.mp h2]
            rfl
          | cons sh shs ih =>
            intro ds vs os h1 h2 h3
            cases ds with
            | nil => cases h1
            | cons d ds =>
              cases vs with
              | nil => cases h2
              | cons v vs =>
                exact RL.cons (RS.r d (h3 0 sh d v rfl rfl rfl).1 (fun _ _ => trivial) fun _ _ => trivial) (ih ds vs (fun i => os (i + 1)) (by simpa using h1) (by simpa using h2) fun i sh' d' v' e1 e2 e3 => h3 (i + 1) sh' d' v' e1 e2 e3)
        exact key shs dsX vsX os x1 x2 x3
      refine ⟨_, hB _ _ (gs_of S.nd S.kind hr), Fr.new H (fun _ => True), _, Own.new, start_ok hN hv (RL.app rX (r.an fun _ _ => trivial)), ?_⟩
      rw [eB]
      exact fun σ' H' sm => q H' fun b o z => sm b o id z
end
end Pi
namespace Pi
open PySem PySem.Spec PyProof.Rows L2
def SF.shp : SF → Option Sh
  | .dt sh | .ma sh => some sh
  | _ => none
section
variable {G : Gb} {S : Se} {W : WX} {N : List Str} {sc scope : Scope} {k : Nat} {X : Cx} {F F' F1 F2 F3 F4 Fe Fo : List SF} {f f1 f2 : VF} {c : Fr} {en : En} {own own0 own1 : Own} {σ : L2.St} {H H' H0 H1 : Hp} {fl : SF} {sh : Sh}
theorem Ok.getM (ok : Ok G c F en own σ H) {i : Nat} {d : D} (hf : F[i]? = some fl) (hs : fl.shp = some sh) (he : en[i]? = some (some d)) : ∃ x, σ[i]? = some (some x) ∧ RS G (Av c (ow own) false) H d sh x (own.sl i) ∧ (own.sl i).Nodup ∧ (∀ s, fl = .ma s → c.vl i = some x) := by
  have s := ok.sl i
  unfold Slt at s
  rw [he, hf] at s
  cases fl with
  | dt a => cases hs; obtain ⟨x, h1, h2, h3⟩ := s; exact ⟨x, h1, h2, h3, fun s z => by cases z⟩
  | ma a => cases hs; obtain ⟨x, h1, h2, h3, h4⟩ := s; exact ⟨x, h1, h2, h3, fun s z => h4⟩
  | _ => cases hs
theorem Ok.chM (ok : Ok G c F en own σ H) {i : Nat} {d' : D} {v : V} {os' : List Addr} (hf : F[i]? = some fl) (hs : fl.shp = some sh) (hσ : σ[i]? = some (some v)) (wr : ∀ a, a ∈ own.sl i → ∃ o, H a = some o ∧ Wr o) (hv : ∀ s, fl = .ma s → c.vl i = some v)
    (kp : ∀ b o, b ∉ own.sl i → H b = some o → H' b = some o) (al : ∀ a, a ∈ own.sl i → H' a ≠ none) (nd : os'.Nodup) (fr : ∀ a, a ∈ os' → H' a ≠ none ∧ (a ∈ own.sl i ∨ H a = none))
    (new : RS G (Av c (ow ⟨fun j => if j = i then os' else own.sl j, own.tm⟩) false) H' d' sh v os') : Ok G c F (en.set i (some d')) ⟨fun j => if j = i then os' else own.sl j, own.tm⟩ σ H' := by
  have nz : ¬ SF.zf (some fl) := fun z => by cases fl <;> first | exact z | cases hs
  have h0 : ∀ a, a ∈ own.sl i → c.H0 a = none := fun a ha => (ok.nw i a ha).2.resolve_right fun z => nz (by rw [← hf]; exact z.1)
  have hi : i < F.length := (List.getElem?_eq_some_iff.mp hf).1
  have nn : ∀ a, H a ≠ none → H' a ≠ none := fun a h => by
    by_cases e : a ∈ own.sl i
    · exact al a e
    · cases q : H a with
      | none => exact absurd q h
      | some o => rw [kp a o e q]; simp
  have slj : ∀ {j a}, a ∈ (if j = i then os' else own.sl j) → (j = i ∧ a ∈ os') ∨ (j ≠ i ∧ a ∈ own.sl j) := fun {j a} h => by
    split at h
    · exact .inl ⟨by assumption, h⟩
    · exact .inr ⟨by assumption, h⟩
  have apart : ∀ j a, j ≠ i → a ∈ own.sl j → a ∉ os' := fun j a ne h z => by
    rcases (fr a z).2 with y | y
    · exact ne (ok.dj j i a h y)
    · exact (ok.nw j a h).1 y
  have tms : ∀ a, own.tm a → a ∉ own.sl i ∧ a ∉ os' := fun a t => ⟨fun y => ok.dt i a y t, fun z => by
    rcases (fr a z).2 with y | y
    · exact ok.dt i a y t
    · exact (ok.nt a t).1 y⟩
  have ow' : ∀ a, ow ⟨fun j => if j = i then os' else own.sl j, own.tm⟩ a → ow own a ∨ H a = none := fun a z => by
    rcases z with ⟨j, hj⟩ | z
    · rcases slj hj with ⟨_, y⟩ | ⟨_, y⟩
      · exact (fr a y).2.imp (fun y => .inl ⟨i, y⟩) id
      · exact .inl (.inl ⟨j, y⟩)
    · exact .inl (.inr z)
  have up : ∀ dp, Up G.K (Av c (ow own) dp) (Av c (ow ⟨fun j => if j = i then os' else own.sl j, own.tm⟩) dp) H H' := fun dp => by
    have av : ∀ a o, Av c (ow own) dp a → H a = some o → Av c (ow ⟨fun j => if j = i then os' else own.sl j, own.tm⟩) dp a ∧ H' a = some o := fun a o h e =>
      ⟨⟨(fun z => (ow' a z).elim h.1 fun y => by rw [y] at e; cases e), h.2⟩, kp a o (fun y => h.1 (.inl ⟨i, y⟩)) e⟩
    have im : ∀ a o, H a = some o → ¬ Wr o → H' a = some o := fun a o e w => kp a o (fun y => by
      obtain ⟨o', e', w'⟩ := wr a y
      rw [e] at e'
      cases e'
      exact w w') e
    refine ⟨fun a xs m e => av a _ m e, fun a xs m e => ?_, fun a C dx fs m e => av a _ m e, fun a xs e => ?_, fun a xs e => e.imp (fun ⟨o, e⟩ => ⟨o, im a _ e id⟩) id⟩
    · rcases e with e | ⟨o, e⟩
      · exact ⟨(av a _ m e).1, .inl (av a _ m e).2⟩
      · exact ⟨(av a _ m e).1, .inr ⟨o, (av a _ m e).2⟩⟩
    · rcases e with e | ⟨o, e⟩
      · exact .inl (im a _ e id)
      · exact .inr ⟨o, im a _ e id⟩
  refine ⟨ok.lF, by simpa using ok.lE, fun b o nb e => ?_, fun a s => nn a (ok.tr a s), fun j1 j2 a q1 q2 => ?_, fun j a q t => ?_, fun a t => ⟨nn a (ok.nt a t).1, (ok.nt a t).2⟩, fun j a q => ?_, fun j => ?_, fun a o e => ?_⟩
  · exact kp b o (fun y => by rw [h0 b y] at e; cases e) (ok.same b o nb e)
  · rcases slj q1 with ⟨e1, y1⟩ | ⟨e1, y1⟩
    · rcases slj q2 with ⟨e2, y2⟩ | ⟨e2, y2⟩
      · rw [e1, e2]
      · exact absurd y1 (apart j2 a e2 y2)
    · rcases slj q2 with ⟨e2, y2⟩ | ⟨e2, y2⟩
      · exact absurd y2 (apart j1 a e1 y1)
      · exact ok.dj j1 j2 a y1 y2
  · rcases slj q with ⟨_, y⟩ | ⟨_, y⟩
    · exact (tms a t).2 y
    · exact ok.dt j a y t
  · rcases slj q with ⟨_, y⟩ | ⟨_, y⟩
    · exact ⟨(fr a y).1, .inl ((fr a y).2.elim (h0 a) ok.free)⟩
    · exact ⟨nn a (ok.nw j a y).1, (ok.nw j a y).2⟩
  · by_cases e : j = i
    · subst e
      unfold Slt
      rw [hf, List.getElem?_set_self (by rw [ok.lE, ← ok.lF]; exact hi)]
      have es : (⟨fun k => if k = j then os' else own.sl k, own.tm⟩ : Own).sl j = os' := if_pos rfl
      cases fl with
      | dt a =>
        cases hs
        refine ⟨v, hσ, ?_⟩
        rw [es]
        exact ⟨new, nd⟩
      | ma a =>
        cases hs
        refine ⟨v, hσ, ?_⟩
        rw [es]
        exact ⟨new, nd, hv _ rfl⟩
      | _ => cases hs
    · have h := ok.sl j
      have es : (⟨fun k => if k = i then os' else own.sl k, own.tm⟩ : Own).sl j = own.sl j := if_neg e
      have pj : ∀ a o, a ∈ own.sl j → H a = some o → H' a = some o := fun a o ha hx => kp a o (fun y => e (ok.dj j i a ha y)) hx
      unfold Slt at h ⊢
      rw [List.getElem?_set_ne (fun z => e z.symm), es]
      split
      · rename_i dp' d hf' he; rw [hf', he] at h; obtain ⟨x, h1, h2⟩ := h; exact ⟨x, h1, R.up (up _) _ h2⟩
      · rename_i dp' d hf' he; rw [hf', he] at h; obtain ⟨x, h1, h2⟩ := h; exact ⟨x, h1, RO.up h2 (up _) pj⟩
      · rename_i d hf' he; rw [hf', he] at h; obtain ⟨x, h1, h2, h3⟩ := h; exact ⟨x, h1, RO.up h2 (up _) pj, h3⟩
      · rename_i hf'; rw [hf'] at h; simpa using h
      · rename_i sh d hf' he; rw [hf', he] at h; obtain ⟨x, h1, h2, h3⟩ := h; exact ⟨x, h1, RS.up (up _) _ h2 pj, h3⟩
      · rename_i sh d hf' he; rw [hf', he] at h; obtain ⟨x, h1, h2, h3⟩ := h; exact ⟨x, h1, RS.up (up _) _ h2 pj, h3⟩
      · trivial
  · obtain ⟨q1, q2⟩ := ok.lk a o e
    have na : a ∉ own.sl i := fun y => by
      obtain ⟨o', e', w'⟩ := wr a y
      rw [q1] at e'
      cases e'
      rcases q2 with q2 | q2
      · cases o <;> first | exact w'.elim | exact q2.elim
      · exact q2 (.inl ⟨i, y⟩)
    exact ⟨kp a o na q1, q2.imp id fun n z => (ow' a z).elim n fun y => by rw [y] at q1; cases q1⟩
theorem Ok.upT (ok : Ok G c F en own σ H) {i : Nat} {v : V} {os' os0 : List Addr} (t0 : ∀ a, a ∈ os0 → own.tm a) (hf : F[i]? = some fl) (hs : fl.shp = some sh) (hσ : σ[i]? = some (some v)) (wr : ∀ a, a ∈ own.sl i → ∃ o, H a = some o ∧ Wr o) (hv : ∀ s, fl = .ma s → c.vl i = some v)
    (kp : ∀ b o, b ∉ own.sl i → H b = some o → H' b = some o) (al : ∀ a, a ∈ own.sl i → H' a ≠ none) (nd : os'.Nodup) (fr : ∀ a, a ∈ os' → H' a ≠ none ∧ (a ∈ own.sl i ∨ H a = none ∨ a ∈ os0)) (dp : Bool) : Up G.K (Av c (ow own) dp) (Av c (ow ⟨fun j => if j = i then os' else own.sl j, fun a => own.tm a ∧ a ∉ os0⟩) dp) H H' := by
  have slj : ∀ {j a}, a ∈ (if j = i then os' else own.sl j) → (j = i ∧ a ∈ os') ∨ (j ≠ i ∧ a ∈ own.sl j) := fun {j a} h => by
    split at h
    · exact .inl ⟨by assumption, h⟩
    · exact .inr ⟨by assumption, h⟩
  have ow' : ∀ a, ow ⟨fun j => if j = i then os' else own.sl j, fun a => own.tm a ∧ a ∉ os0⟩ a → ow own a ∨ H a = none := fun a z => by
    rcases z with ⟨j, hj⟩ | z
    · rcases slj hj with ⟨_, y⟩ | ⟨_, y⟩
      · exact (fr a y).2.elim (fun y => .inl (.inl ⟨i, y⟩)) fun y => y.elim .inr fun y => .inl (.inr (t0 a y))
      · exact .inl (.inl ⟨j, y⟩)
    · exact .inl (.inr z.1)
  have av : ∀ a o, Av c (ow own) dp a → H a = some o → Av c (ow ⟨fun j => if j = i then os' else own.sl j, fun a => own.tm a ∧ a ∉ os0⟩) dp a ∧ H' a = some o := fun a o h e =>
    ⟨⟨(fun z => (ow' a z).elim h.1 fun y => by rw [y] at e; cases e), h.2⟩, kp a o (fun y => h.1 (.inl ⟨i, y⟩)) e⟩
  have im : ∀ a o, H a = some o → ¬ Wr o → H' a = some o := fun a o e w => kp a o (fun y => by
    obtain ⟨o', e', w'⟩ := wr a y
    rw [e] at e'
    cases e'
    exact w w') e
  refine ⟨fun a xs m e => av a _ m e, fun a xs m e => ?_, fun a C dx fs m e => av a _ m e, fun a xs e => ?_, fun a xs e => e.imp (fun ⟨o, e⟩ => ⟨o, im a _ e id⟩) id⟩
  · rcases e with e | ⟨o, e⟩
    · exact ⟨(av a _ m e).1, .inl (av a _ m e).2⟩
    · exact ⟨(av a _ m e).1, .inr ⟨o, (av a _ m e).2⟩⟩
  · rcases e with e | ⟨o, e⟩
    · exact .inl (im a _ e id)
    · exact .inr ⟨o, im a _ e id⟩
theorem Ok.chT (ok : Ok G c F en own σ H) {i : Nat} {d' : D} {v : V} {os' os0 : List Addr} (t0 : ∀ a, a ∈ os0 → own.tm a) (hf : F[i]? = some fl) (hs : fl.shp = some sh) (hσ : σ[i]? = some (some v)) (wr : ∀ a, a ∈ own.sl i → ∃ o, H a = some o ∧ Wr o) (hv : ∀ s, fl = .ma s → c.vl i = some v)
    (kp : ∀ b o, b ∉ own.sl i → H b = some o → H' b = some o) (al : ∀ a, a ∈ own.sl i → H' a ≠ none) (nd : os'.Nodup) (fr : ∀ a, a ∈ os' → H' a ≠ none ∧ (a ∈ own.sl i ∨ H a = none ∨ a ∈ os0))
    (new : RS G (Av c (ow ⟨fun j => if j = i then os' else own.sl j, fun a => own.tm a ∧ a ∉ os0⟩) false) H' d' sh v os') : Ok G c F (en.set i (some d')) ⟨fun j => if j = i then os' else own.sl j, fun a => own.tm a ∧ a ∉ os0⟩ σ H' := by
  have nz : ¬ SF.zf (some fl) := fun z => by cases fl <;> first | exact z | cases hs
  have h0 : ∀ a, a ∈ own.sl i → c.H0 a = none := fun a ha => (ok.nw i a ha).2.resolve_right fun z => nz (by rw [← hf]; exact z.1)
  have hi : i < F.length := (List.getElem?_eq_some_iff.mp hf).1
  have nn : ∀ a, H a ≠ none → H' a ≠ none := fun a h => by
    by_cases e : a ∈ own.sl i
    · exact al a e
    · cases q : H a with
      | none => exact absurd q h
      | some o => rw [kp a o e q]; simp
  have slj : ∀ {j a}, a ∈ (if j = i then os' else own.sl j) → (j = i ∧ a ∈ os') ∨ (j ≠ i ∧ a ∈ own.sl j) := fun {j a} h => by
    split at h
    · exact .inl ⟨by assumption, h⟩
    · exact .inr ⟨by assumption, h⟩
  have apart : ∀ j a, j ≠ i → a ∈ own.sl j → a ∉ os' := fun j a ne h z => by
    rcases (fr a z).2 with y | y | y
    · exact ne (ok.dj j i a h y)
    · exact (ok.nw j a h).1 y
    · exact ok.dt j a h (t0 a y)
  have tms : ∀ a, own.tm a ∧ a ∉ os0 → a ∉ own.sl i ∧ a ∉ os' := fun a t => ⟨fun y => ok.dt i a y t.1, fun z => by
    rcases (fr a z).2 with y | y | y
    · exact ok.dt i a y t.1
    · exact (ok.nt a t.1).1 y
    · exact t.2 y⟩
  have ow' : ∀ a, ow ⟨fun j => if j = i then os' else own.sl j, fun a => own.tm a ∧ a ∉ os0⟩ a → ow own a ∨ H a = none := fun a z => by
    rcases z with ⟨j, hj⟩ | z
    · rcases slj hj with ⟨_, y⟩ | ⟨_, y⟩
      · exact (fr a y).2.elim (fun y => .inl (.inl ⟨i, y⟩)) fun y => y.elim .inr fun y => .inl (.inr (t0 a y))
      · exact .inl (.inl ⟨j, y⟩)
    · exact .inl (.inr z.1)
  have up : ∀ dp, Up G.K (Av c (ow own) dp) (Av c (ow ⟨fun j => if j = i then os' else own.sl j, fun a => own.tm a ∧ a ∉ os0⟩) dp) H H' := fun dp => by
    have av : ∀ a o, Av c (ow own) dp a → H a = some o → Av c (ow ⟨fun j => if j = i then os' else own.sl j, fun a => own.tm a ∧ a ∉ os0⟩) dp a ∧ H' a = some o := fun a o h e =>
      ⟨⟨(fun z => (ow' a z).elim h.1 fun y => by rw [y] at e; cases e), h.2⟩, kp a o (fun y => h.1 (.inl ⟨i, y⟩)) e⟩
    have im : ∀ a o, H a = some o → ¬ Wr o → H' a = some o := fun a o e w => kp a o (fun y => by
      obtain ⟨o', e', w'⟩ := wr a y
      rw [e] at e'
      cases e'
      exact w w') e
    refine ⟨fun a xs m e => av a _ m e, fun a xs m e => ?_, fun a C dx fs m e => av a _ m e, fun a xs e => ?_, fun a xs e => e.imp (fun ⟨o, e⟩ => ⟨o, im a _ e id⟩) id⟩
    · rcases e with e | ⟨o, e⟩
      · exact ⟨(av a _ m e).1, .inl (av a _ m e).2⟩
      · exact ⟨(av a _ m e).1, .inr ⟨o, (av a _ m e).2⟩⟩
    · rcases e with e | ⟨o, e⟩
      · exact .inl (im a _ e id)
      · exact .inr ⟨o, im a _ e id⟩
  refine ⟨ok.lF, by simpa using ok.lE, fun b o nb e => ?_, fun a s => nn a (ok.tr a s), fun j1 j2 a q1 q2 => ?_, fun j a q t => ?_, fun a t => ⟨nn a (ok.nt a t.1).1, (ok.nt a t.1).2⟩, fun j a q => ?_, fun j => ?_, fun a o e => ?_⟩
  · exact kp b o (fun y => by rw [h0 b y] at e; cases e) (ok.same b o nb e)
  · rcases slj q1 with ⟨e1, y1⟩ | ⟨e1, y1⟩
    · rcases slj q2 with ⟨e2, y2⟩ | ⟨e2, y2⟩
      · rw [e1, e2]
      · exact absurd y1 (apart j2 a e2 y2)
    · rcases slj q2 with ⟨e2, y2⟩ | ⟨e2, y2⟩
      · exact absurd y2 (apart j1 a e1 y1)
      · exact ok.dj j1 j2 a y1 y2
  · rcases slj q with ⟨_, y⟩ | ⟨_, y⟩
    · exact (tms a t).2 y
    · exact ok.dt j a y t.1
  · rcases slj q with ⟨_, y⟩ | ⟨_, y⟩
    · exact ⟨(fr a y).1, .inl ((fr a y).2.elim (h0 a) fun y => y.elim ok.free fun y => (ok.nt a (t0 a y)).2)⟩
    · exact ⟨nn a (ok.nw j a y).1, (ok.nw j a y).2⟩
  · by_cases e : j = i
    · subst e
      unfold Slt
      rw [hf, List.getElem?_set_self (by rw [ok.lE, ← ok.lF]; exact hi)]
      have es : (⟨fun k => if k = j then os' else own.sl k, fun a => own.tm a ∧ a ∉ os0⟩ : Own).sl j = os' := if_pos rfl
      cases fl with
      | dt a =>
        cases hs
        refine ⟨v, hσ, ?_⟩
        rw [es]
        exact ⟨new, nd⟩
      | ma a =>
        cases hs
        refine ⟨v, hσ, ?_⟩
        rw [es]
        exact ⟨new, nd, hv _ rfl⟩
      | _ => cases hs
    · have h := ok.sl j
      have es : (⟨fun k => if k = i then os' else own.sl k, fun a => own.tm a ∧ a ∉ os0⟩ : Own).sl j = own.sl j := if_neg e
      have pj : ∀ a o, a ∈ own.sl j → H a = some o → H' a = some o := fun a o ha hx => kp a o (fun y => e (ok.dj j i a ha y)) hx
      unfold Slt at h ⊢
      rw [List.getElem?_set_ne (fun z => e z.symm), es]
      split
      · rename_i dp' d hf' he; rw [hf', he] at h; obtain ⟨x, h1, h2⟩ := h; exact ⟨x, h1, R.up (up _) _ h2⟩
      · rename_i dp' d hf' he; rw [hf', he] at h; obtain ⟨x, h1, h2⟩ := h; exact ⟨x, h1, RO.up h2 (up _) pj⟩
      · rename_i d hf' he; rw [hf', he] at h; obtain ⟨x, h1, h2, h3⟩ := h; exact ⟨x, h1, RO.up h2 (up _) pj, h3⟩
      · rename_i hf'; rw [hf'] at h; simpa using h
      · rename_i sh d hf' he; rw [hf', he] at h; obtain ⟨x, h1, h2, h3⟩ := h; exact ⟨x, h1, RS.up (up _) _ h2 pj, h3⟩
      · rename_i sh d hf' he; rw [hf', he] at h; obtain ⟨x, h1, h2, h3⟩ := h; exact ⟨x, h1, RS.up (up _) _ h2 pj, h3⟩
      · trivial
  · obtain ⟨q1, q2⟩ := ok.lk a o e
    have na : a ∉ own.sl i := fun y => by
      obtain ⟨o', e', w'⟩ := wr a y
      rw [q1] at e'
      cases e'
      rcases q2 with q2 | q2
      · cases o <;> first | exact w'.elim | exact q2.elim
      · exact q2 (.inl ⟨i, y⟩)
    exact ⟨kp a o na q1, q2.imp id fun n z => (ow' a z).elim n fun y => by rw [y] at q1; cases q1⟩
end
section
variable {G : Gb} {S : Se} {W : WX} {N : List Str} {sc scope : Scope} {k : Nat} {X : Cx} {F F' F1 F2 F3 F4 Fe Fo : List SF} {f f1 f2 : VF} {c : Fr} {en : En} {own own0 own1 : Own} {σ : L2.St} {H H' H0 H1 : Hp} {fl : SF} {sh : Sh}
theorem spX_of {n : Nat} {fn : List D → Rs D} {fs : List VF} {i : Nat} {d : D} {ds : List D} {vs : List V} {x0 : V} {Q : VK} (hn : fs.length + 1 = n) (ho : nbL fs = true) (hf : F1[i]? = some fl) (hs : fl.shp = some sh) (ok1 : Ok G c F1 en own1 σ H1) (e1 : σ[i]? = some (some x0)) (he : en[i]? = some (some d)) (r1 : RVL G c (ow own1) H1 fs ds vs)
    (mx : Mt G W c σ (bnd (fn (d :: ds)) fun r => match r with
      | .tup [v, d'] => (.ok (v, en.set i (some d')) : Rs (D × En))
      | _ => .error .stuck) fun p => ∀ v H' own', Ok G c F1 p.2 own' σ H' → RV G c own' H' (.sh false) p.1 v → Q v H') : spX G [sh] n fn (x0 :: vs ++ []) H1 Q (WE W σ) := by
  obtain ⟨x1, e1', r0, nd, hv⟩ := ok1.getM hf hs he
  rw [e1] at e1'
  cases e1'
  have wr := RS.wr d r0
  refine ⟨by rw [List.append_nil, List.length_cons, r1.len.2, hn], [d], ds, [x0], vs, fun j => if j = 0 then own1.sl i else [], Av c (ow own1) false, by simp, ⟨rfl, rfl, fun j sh' d' v' h1 h2 h3 => ?_⟩, ⟨fun j1 j2 a q1 q2 => ?_, fun j hj => if_neg (by simp at hj; omega)⟩, fun a h z => ?_, (r1.rl ho).an fun a z => z.undp, ?_⟩
  · cases j with
    | zero =>
      simp at h1 h2 h3
      subst h1 h2 h3
      exact ⟨r0, nd⟩
    | succ j => simp at h1
  · dsimp only at q1 q2
    split at q1
    · split at q2
      · rename_i a1 a2; rw [a1, a2]
      · cases q2
    · cases q1
  · obtain ⟨j, hj⟩ := z
    dsimp only at hj
    split at hj
    · exact h.1 (.inl ⟨i, hj⟩)
    · cases hj
  · have mx' := mx.bnd
    rw [List.singleton_append]
    cases e : fn (d :: ds) with
    | error er =>
      rw [e] at mx'
      cases er with
      | stuck => exact mx'.elim
      | raise x => exact fun H2 s2 => mx' H2 fun b o nb e => s2 _ _ (ok1.same b o nb e)
    | ok r =>
      rw [e] at mx'
      cases r with
      | tup l =>
        cases l with
        | nil => exact mx'.elim
        | cons r0' l =>
          cases l with
          | nil => exact mx'.elim
          | cons d' l =>
            cases l with
            | cons _ _ => exact mx'.elim
            | nil =>
              intro v H2 os' kp al apt fr rs rr
              obtain ⟨_, _, rs⟩ := rs
              obtain ⟨n1, n2⟩ := rs 0 sh d' x0 rfl rfl rfl
              have inO_i : ∀ a, inO (fun j => if j = 0 then own1.sl i else []) a ↔ a ∈ own1.sl i := fun a => ⟨(fun ⟨j, hj⟩ => by
                dsimp only at hj
                split at hj
                · exact hj
                · cases hj), fun h => ⟨0, h⟩⟩
              have inO_0 : ∀ a, inO os' a ↔ a ∈ os' 0 := fun a => ⟨(fun ⟨j, hj⟩ => by
                cases j with
                | zero => exact hj
                | succ j => rw [apt.2 (j + 1) (by simp)] at hj; cases hj), fun h => ⟨0, h⟩⟩
              have fr' : ∀ a, a ∈ os' 0 → H2 a ≠ none ∧ (a ∈ own1.sl i ∨ H1 a = none) := fun a ha => by
                obtain ⟨q1, q2⟩ := fr a ((inO_0 a).mpr ha)
                exact ⟨q1, q2.imp (inO_i a).mp id⟩
              have nz : ¬ SF.zf (some fl) := fun z => by cases fl <;> first | exact z | cases hs
              have h0 : ∀ a, a ∈ own1.sl i → c.H0 a = none := fun a ha => (ok1.nw i a ha).2.resolve_right fun z => nz (by rw [← hf]; exact z.1)
              have avm : ∀ a, ¬ inO os' a ∧ (H1 a = none ∨ inO (fun j => if j = 0 then own1.sl i else []) a ∨ Av c (ow own1) false a) → Av c (ow ⟨fun j => if j = i then os' 0 else own1.sl j, own1.tm⟩) false a := fun a z => by
                have nh : ∀ {j}, a ∈ own1.sl j → j ≠ i → ¬ (H1 a = none ∨ inO (fun j => if j = 0 then own1.sl i else []) a ∨ Av c (ow own1) false a) := fun {j} hj ne y => by
                  rcases y with y | y | y
                  · exact (ok1.nw j a hj).1 y
                  · exact ne (ok1.dj j i a hj ((inO_i a).mp y))
                  · exact y.1 (.inl ⟨j, hj⟩)
                refine ⟨fun y => ?_, (fun y => by cases y), ?_⟩
                · rcases y with ⟨j, hj⟩ | y
                  · dsimp only at hj
                    split at hj
                    · exact z.1 ((inO_0 a).mpr hj)
                    · exact nh hj (by assumption) z.2
                  · rcases z.2 with q | q | q
                    · exact (ok1.nt a y).1 q
                    · exact ok1.dt i a ((inO_i a).mp q) y
                    · exact q.1 (.inr y)
                · rcases z.2 with q | q | q
                  · exact .inl (ok1.free q)
                  · exact .inl (h0 a ((inO_i a).mp q))
                  · exact q.2.2
              have new := RS.up (Up.same (Same.refl H2) avm) d' n1 (fun _ _ _ z => z)
              have ok2 := ok1.chM hf hs e1 wr hv (fun b o nb e => kp b o (fun z => nb ((inO_i b).mp z)) e) (fun a ha => al a ((inO_i a).mpr ha)) n2 fr' new
              exact mx' v H2 _ ok2 (R.up (Up.same (Same.refl H2) avm) _ rr)
      | _ => exact mx'.elim
end
end Pi
namespace Pi
open PySem PySem.Spec PyProof.Rows L2
section
variable {G : Gb} {A A' : Addr → Prop} {H H' : Hp}
theorem RS_s {d : D} {v : V} {os : List Addr} : RS G A H d .s v os ↔ os = [] ∧ R G A H d v := by
  cases d with
  | tup l => unfold RS; exact ⟨fun h => h.2, fun h => ⟨rfl, h⟩⟩
  | lst l => unfold RS; exact ⟨fun h => h.2, fun h => ⟨rfl, h⟩⟩
  | dct ks l => unfold RS; exact ⟨fun h => h.2, fun h => ⟨rfl, h⟩⟩
  | obj c l => unfold RS; exact ⟨fun h => h.2, fun h => ⟨rfl, h⟩⟩
  | scr l => unfold RS; exact Iff.rfl
  | non => unfold RS R; exact Iff.rfl
  | bl b => unfold RS R; exact Iff.rfl
  | int i => unfold RS R; exact Iff.rfl
  | str x => unfold RS R; exact Iff.rfl
  | exc e => unfold RS; exact ⟨fun h => h.elim, fun h => h.2⟩
theorem RSP_s : ∀ {l : List D} {xs : List V} {os : List Addr}, RSP G A H l (.rep .s) xs os ↔ os = [] ∧ RL G A H l xs
  | [], xs, os => by unfold RSP RL; exact ⟨fun h => ⟨h.2, h.1⟩, fun h => ⟨h.2, h.1⟩⟩
  | d :: l, xs, os => by
    unfold RSP RL
    constructor
    · rintro ⟨x, r, o1, o2, e1, e2, h1, h2⟩
      obtain ⟨z1, h1⟩ := RS_s.mp h1
      obtain ⟨z2, h2⟩ := RSP_s.mp h2
      exact ⟨by rw [e2, z1, z2]; rfl, x, r, e1, h1, h2⟩
    · rintro ⟨z, x, r, e1, h1, h2⟩
      exact ⟨x, r, [], [], e1, by rw [z]; rfl, RS_s.mpr ⟨rfl, h1⟩, RSP_s.mpr ⟨rfl, h2⟩⟩
theorem RS_od {ks : List Key} {l : List D} {v : V} {os : List Addr} : RS G A H (.dct ks l) (.o .s) v os ↔ ∃ a kvs, v = .ref a ∧ os = [a] ∧ H a = some (.dK kvs) ∧ kvs.map (·.1) = ks ∧ RL G A H l (kvs.map (·.2)) := by
  unfold RS
  show (∃ a kvs r, v = .ref a ∧ os = a :: r ∧ H a = some (.dK kvs) ∧ kvs.map (·.1) = ks ∧ RSP G A H l (.rep .s) (kvs.map (·.2)) r) ↔ _
  constructor
  · rintro ⟨a, kvs, r, e1, e2, e3, e4, e5⟩
    obtain ⟨z, h⟩ := RSP_s.mp e5
    exact ⟨a, kvs, e1, by rw [e2, z], e3, e4, h⟩
  · rintro ⟨a, kvs, e1, e2, e3, e4, e5⟩
    exact ⟨a, kvs, [], e1, e2, e3, e4, RSP_s.mpr ⟨rfl, e5⟩⟩
theorem RS_ol {l : List D} {v : V} {os : List Addr} : RS G A H (.lst l) (.o .s) v os ↔ ∃ a xs, v = .ref a ∧ os = [a] ∧ H a = some (.lst xs) ∧ RL G A H l xs := by
  unfold RS
  show (∃ a xs r, v = .ref a ∧ os = a :: r ∧ H a = some (.lst xs) ∧ RSP G A H l (.rep .s) xs r) ↔ _
  constructor
  · rintro ⟨a, kvs, r, e1, e2, e3, e5⟩
    obtain ⟨z, h⟩ := RSP_s.mp e5
    exact ⟨a, kvs, e1, by rw [e2, z], e3, h⟩
  · rintro ⟨a, kvs, e1, e2, e3, e5⟩
    exact ⟨a, kvs, [], e1, e2, e3, RSP_s.mpr ⟨rfl, e5⟩⟩
end
def isLD : D → Bool
  | .lst _ | .dct _ _ => true
  | _ => false
section
variable {G : Gb} {S : Se} {W : WX} {N : List Str} {sc scope : Scope} {k : Nat} {X : Cx} {F F' F1 F2 F3 F4 Fe Fo : List SF} {f f1 f2 : VF} {c : Fr} {en : En} {own own0 own1 : Own} {σ : L2.St} {H H' H0 H1 : Hp} {fl : SF} {sh : Sh} {b : Bool}
theorem dss_stuck {sts : List Stmt} : PSs X sts (TSv G S F Fo sStuck) := ⟨fun _ _ _ _ _ _ h => by obtain ⟨_, _, _, _, m⟩ := h; exact m.elim⟩
end
theorem runX_of {k m : Nat} {stB : EvS} {stM : EvX} {ds : List D} {p : D × En} {news : List D} (hB : stB (ds.map some ++ List.replicate m none) = .error .stuck ∨ ∃ fl, stB (ds.map some ++ List.replicate m none) = .ok fl) (hM : stM (ds.map some ++ List.replicate m none) = .ok p) (hg : grab k p.2 = some news) : runX k m stB stM ds = .ok (.tup (p.1 :: news)) := by
  unfold runX
  rcases hB with h | ⟨fl, h⟩ <;> rw [h, hM] <;> dsimp only <;> rw [hg]
theorem sB_of {s : EvS} {t : EvX} {en en' : En} {r : Rs (D × En)} (h : s en = .ok (.nx en')) (h2 : t en' = r) : sB s t en = r := by
  unfold sB
  rw [h]
  exact h2
end Pi
namespace Pi
open PySem PySem.Spec PyProof.Rows L2
def Sh.at : Sh → Nat → Sh
  | z, 0 => z.hd
  | z, j + 1 => z.tl.at j
section
variable {G : Gb} {A A' : Addr → Prop} {H H' : Hp}
theorem RSP_at {d : D} {v : V} {oj : List Addr} : ∀ {l : List D} {fs : Sh} {xs : List V} {os : List Addr} {j : Nat}, RSP G A H l fs xs os → j ≤ l.length → RS G A H d (fs.at j) v oj → os.Nodup → oj.Nodup → (∀ a, a ∈ oj → a ∉ os) →
    ∃ os', RSP G A H (setD l j d) fs (if j = l.length then xs ++ [v] else xs.set j v) os' ∧ (∀ a, a ∈ os' → a ∈ os ∨ a ∈ oj) ∧ os'.Nodup
  | [], fs, xs, os, j, h, hj, hd, n1, n2, n3 => by
    unfold RSP at h
    obtain ⟨rfl, rfl⟩ := h
    have : j = 0 := by simpa using hj
    subst this
    refine ⟨oj, ?_, fun a h => .inr h, n2⟩
    show RSP G A H [d] fs [v] oj
    unfold RSP
    exact ⟨v, [], oj, [], rfl, by simp, hd, by unfold RSP; exact ⟨rfl, rfl⟩⟩
  | d0 :: l, fs, xs, os, 0, h, hj, hd, n1, n2, n3 => by
    unfold RSP at h
    obtain ⟨x, r, o1, o2, rfl, rfl, h1, h2⟩ := h
    obtain ⟨m1, m2, m3⟩ := List.nodup_append.mp n1
    refine ⟨oj ++ o2, ?_, fun a h => (List.mem_append.mp h).elim .inr fun z => .inl (List.mem_append_right _ z), ?_⟩
    · rw [if_neg (by simp)]
      show RSP G A H (d :: l) fs (v :: r) (oj ++ o2)
      unfold RSP
      exact ⟨v, r, oj, o2, rfl, rfl, hd, h2⟩
    · rw [List.nodup_append]
      exact ⟨n2, m2, fun a ha b hb e => n3 a ha (by rw [e]; exact List.mem_append_right _ hb)⟩
  | d0 :: l, fs, xs, os, j + 1, h, hj, hd, n1, n2, n3 => by
    unfold RSP at h
    obtain ⟨x, r, o1, o2, rfl, rfl, h1, h2⟩ := h
    obtain ⟨m1, m2, m3⟩ := List.nodup_append.mp n1
    obtain ⟨o3, q1, q2, q3⟩ := RSP_at (j := j) h2 (by simpa using hj) hd m2 n2 fun a ha z => n3 a ha (List.mem_append_right _ z)
    refine ⟨o1 ++ o3, ?_, fun a h => (List.mem_append.mp h).elim (fun z => .inl (List.mem_append_left _ z)) fun z => (q2 a z).imp (fun y => List.mem_append_right _ y) id, ?_⟩
    · have e1 : setD (d0 :: l) (j + 1) d = d0 :: setD l j d := by
        unfold setD
        by_cases e : j = l.length
        · rw [if_pos (by simp [e]), if_pos e]; rfl
        · rw [if_neg (by simp [e]), if_neg e]; rfl
      have e2 : (if j + 1 = (d0 :: l).length then (x :: r) ++ [v] else (x :: r).set (j + 1) v) = x :: (if j = l.length then r ++ [v] else r.set j v) := by
        by_cases e : j = l.length
        · rw [if_pos (by simp [e]), if_pos e]; rfl
        · rw [if_neg (by simp [e]), if_neg e]; rfl
      rw [e1, e2]
      unfold RSP
      exact ⟨x, _, o1, o3, rfl, rfl, h1, q1⟩
    · rw [List.nodup_append]
      refine ⟨m1, q3, fun a ha b hb e => ?_⟩
      rcases q2 b hb with z | z
      · exact m3 a ha b z e
      · exact n3 b z (by rw [← e]; exact List.mem_append_left _ ha)
theorem RS_om {c : Nat} {l : List D} {fs : Sh} {v : V} {os : List Addr} : RS G A H (.obj c l) (.m fs) v os ↔ ∃ a dx flds r, v = .ref a ∧ os = a :: r ∧ H a = some (.ins (G.ca c) dx flds) ∧ flds.map (·.1) = (G.cf c).take l.length ∧ RSP G A H l fs (flds.map (·.2)) r := by
  unfold RS
  exact Iff.rfl
end
def fldOk (sh : Sh) (f : VF) : Bool := match sh with
  | .s => f.nb
  | .o .s => match f with
    | .uq _ => true
    | _ => false
  | _ => false
def sSetM (i c j : Nat) (sh : Sh) (ev : EvE) : EvS := fun en => bnd (ev en) fun d => match en[i]? with
  | some (some (.obj c' l)) => if c' = c ∧ j ≤ l.length ∧ (sh = .s ∨ isLD d = true) then .ok (.nx (en.set i (some (.obj c (setD l j d))))) else .error .stuck
  | _ => .error .stuck
section
variable {G : Gb} {S : Se} {W : WX} {N : List Str} {sc scope : Scope} {k : Nat} {X : Cx} {F F' F1 F2 F3 F4 Fe Fo : List SF} {f f1 f2 fv : VF} {c : Fr} {en : En} {own own0 own1 : Own} {σ : L2.St} {H H' H0 H1 : Hp} {fl : SF} {sh fs : Sh} {b : Bool}
theorem Ok.setM {c0 j : Nat} {x f : Str} {ks : List Str} {l : List D} {d : D} {v : V} {oj : List Addr} {i : Nat} (ok : Ok G c F en own σ H) (C : Ccl G c0 x ks) (hf : F[i]? = some fl) (hsh : fl.shp = some (.m fs)) (hen : en[i]? = some (some (.obj c0 l))) (hjl : j ≤ l.length) (hj : ks[j]? = some f)
    (r : RS G (Av c (ow own) false) H d (fs.at j) v oj) (t0 : ∀ a, a ∈ oj → own.tm a) (nj : oj.Nodup) :
    ∃ p dx flds, σ[i]? = some (some (.ref p)) ∧ H p = some (.ins (G.ca c0) dx flds) ∧ flds.length ≤ ks.length ∧ ∃ own', Ok G c F (en.set i (some (.obj c0 (setD l j d)))) own' σ (upd H p (.ins (G.ca c0) dx (putF f v flds))) ∧ Up G.K (Av c (ow own) false) (Av c (ow own') false) H (upd H p (.ins (G.ca c0) dx (putF f v flds))) := by
  obtain ⟨xv, hσ, hR, nd, hvl⟩ := ok.getM hf hsh hen
  have wr := RS.wr _ hR
  obtain ⟨p, dx, flds, os, rfl, eo, e1, e2, e3⟩ := RS_om.mp hR
  rw [C.cf] at e2
  have hlen : flds.length = l.length := by
    have := RSP.len l e3
    rw [List.length_map] at this
    exact this
  have hjk : j < ks.length := (List.getElem?_eq_some_iff.mp hj).1
  have le : flds.length ≤ ks.length := by
    have := congrArg List.length e2
    simp only [List.length_map, List.length_take] at this
    omega
  refine ⟨p, dx, flds, hσ, e1, le, ?_⟩
  have po : p ∈ own.sl i := by rw [eo]; exact List.mem_cons_self
  have nA : ∀ dp, ¬ Av c (ow own) dp p := fun dp z => z.1 (.inl ⟨i, po⟩)
  have nd2 : p ∉ os ∧ os.Nodup := by rw [eo] at nd; exact List.nodup_cons.mp nd
  have up : Up G.K (Av c (ow own) false) (Av c (ow own) false) H (upd H p (.ins (G.ca c0) dx (putF f v flds))) := Up.write e1 trivial (nA _)
  have jos : ∀ a, a ∈ oj → a ∉ own.sl i := fun a ha z => ok.dt i a z (t0 a ha)
  have r' := RS.up up d r fun a o ha hx => by
    rw [upd_ne (fun e => jos a ha (by rw [e]; exact po))]; exact hx
  have e3' := RSP.up up l e3 fun a o ha hx => by
    rw [upd_ne (fun e => nd2.1 (by rw [← e]; exact ha))]; exact hx
  obtain ⟨os', q1, q2, q3⟩ := RSP_at (j := j) e3' hjl r' nd2.2 nj fun a ha z => jos a ha (by rw [eo]; exact List.mem_cons_of_mem _ z)
  have names : (putF f v flds).map (·.1) = ks.take (setD l j d).length ∧ (putF f v flds).map (·.2) = if j = l.length then flds.map (·.2) ++ [v] else (flds.map (·.2)).set j v := by
    unfold setD
    by_cases hjq : j = l.length
    · rw [if_pos hjq, if_pos hjq, putF_new]
      · refine ⟨?_, by rw [List.map_append]; rfl⟩
        rw [List.map_append, e2, List.length_append, hjq.symm]
        rw [List.map_cons, List.map_nil]
        rw [show j + [d].length = j + 1 from rfl, List.take_add_one]
        rw [hj]
        rfl
      · rw [e2]
        intro hmem
        have : f ∈ ks.take j := by rw [hjq]; exact hmem
        obtain ⟨t, ht, et⟩ := List.mem_iff_getElem.mp this
        rw [List.length_take] at ht
        have h3 : ks[t]? = some f := by
          rw [List.getElem?_eq_getElem (by omega)]
          rw [List.getElem_take] at et
          rw [et]
        have h4 := (List.getElem?_inj (by omega) C.nd).mp (h3.trans hj.symm)
        omega
    · rw [if_neg hjq, if_neg hjq, List.length_set]
      have hjl2 : j < l.length := by omega
      obtain ⟨q1, q2⟩ := putF_at (f := f) (v := v) (fs := flds) (j := j) (by rw [e2]; exact C.nd.sublist (List.take_sublist _ _)) (by rw [e2, List.getElem?_take_of_lt hjl2]; exact hj)
      exact ⟨by rw [q1, e2], q2⟩
  have al : ∀ a, H a ≠ none → upd H p (.ins (G.ca c0) dx (putF f v flds)) a ≠ none := fun a h => by
    by_cases e : a = p
    · rw [e, upd_same]; simp
    · rw [upd_ne e]; exact h
  have kp : ∀ b o, b ∉ own.sl i → H b = some o → upd H p (.ins (G.ca c0) dx (putF f v flds)) b = some o := fun b o nb e => by
    rw [upd_ne (fun y => nb (by rw [y]; exact po))]; exact e
  have nd3 : (p :: os').Nodup := by
    refine List.nodup_cons.mpr ⟨fun z => ?_, q3⟩
    rcases q2 p z with y | y
    · exact nd2.1 y
    · exact jos p y po
  have fr : ∀ a, a ∈ p :: os' → upd H p (.ins (G.ca c0) dx (putF f v flds)) a ≠ none ∧ (a ∈ own.sl i ∨ H a = none ∨ a ∈ oj) := fun a ha => by
    rcases List.mem_cons.mp ha with z | z
    · rw [z]; exact ⟨al p (by rw [e1]; simp), .inl po⟩
    · rcases q2 a z with y | y
      · have : a ∈ own.sl i := by rw [eo]; exact List.mem_cons_of_mem _ y
        exact ⟨al a (ok.nw i a this).1, .inl this⟩
      · exact ⟨al a (ok.nt a (t0 a y)).1, .inr (.inr y)⟩
  refine ⟨_, ok.chT (os' := p :: os') (os0 := oj) t0 hf hsh hσ wr hvl kp (fun a ha => al a (ok.nw i a ha).1) nd3 fr ?_, ok.upT (os' := p :: os') (os0 := oj) t0 hf hsh hσ wr hvl kp (fun a ha => al a (ok.nw i a ha).1) nd3 fr false⟩
  refine RS_om.mpr ⟨p, dx, putF f v flds, os', rfl, rfl, upd_same, by rw [C.cf]; exact names.1, ?_⟩
  rw [names.2]
  refine RSP.up (Up.sub (fun a z => ?_) rfl) _ q1 fun _ _ _ z => z
  rcases z with ⟨k, z⟩ | z
  · dsimp only at z
    split at z
    · rename_i ek
      rcases List.mem_cons.mp z with z | z
      · exact .inl ⟨i, by rw [z]; exact po⟩
      · rcases q2 a z with y | y
        · exact .inl ⟨i, by rw [eo]; exact List.mem_cons_of_mem _ y⟩
        · exact .inr (t0 a y)
    · exact .inl ⟨k, z⟩
  · exact .inr z.1
theorem ds_setM (g : Gv G N sc X) {c0 j : Nat} {x f : Str} {ks : List Str} (C : Ccl G c0 x ks) (i : Nat) {y : Str} {px apos pos : Pos} {e : Expr} {ev : EvE} (he : PE X e (TEv G S.W F F1 fv ev)) (hN : N[i]? = some y := by rfl) (hv : visB sc y = true := by rfl) (hx : nameB y = true := by rfl) (hf : F1[i]? = some fl := by rfl) (hsh : fl.shp = some (.m fs) := by rfl) (hfo : fldOk (fs.at j) fv = true := by rfl) (hj : ks[j]? = some f := by rfl) (hk : ks.length < 1000 := by decide)
    (hs : swapsWith e (some (.Attribute (.Name y px) f apos)) pos.line X.env = pure false := by rfl) : PS X (.Assign [.Attribute (.Name y px) f apos] e pos) (TSv G S F F1 (sSetM i c0 j (fs.at j) ev)) := by
  obtain ⟨h1, h2, _⟩ := nameB_d hx
  refine ps_imp (ps_fld (pe_var (i := i) (by rw [g.nN]; exact hN) (visB_vis hv g.sc) h1 h2) he hs) ?_
  rintro D σ H ⟨c, en, own, ok, m⟩
  refine ⟨c, en, own, ok, m.bnd.e.imp fun d _ q v H1 own1 ok1 s1 b1 r1 => ?_⟩
  split at q
  · rename_i c' l hen
    split at q
    · rename_i hc
      obtain ⟨rfl, hjl, hld⟩ := hc
      have key : ∃ own2 oj, Ok G c F1 en own2 σ H1 ∧ RS G (Av c (ow own2) false) H1 d (fs.at j) v oj ∧ (∀ a, a ∈ oj → own2.tm a) ∧ oj.Nodup := by
        revert hfo hld
        generalize fs.at j = shj
        intro hfo hld
        unfold fldOk at hfo
        split at hfo
        · obtain ⟨own2, ok2, _, a2⟩ := RV.share (f := fv) ok1 r1 hfo
          exact ⟨own2, [], ok2, RS_s.mpr ⟨rfl, R.up (Up.sub (fun _ h => h) (by cases fv.dp <;> rfl)) _ a2⟩, (fun a h => by cases h), List.nodup_nil⟩
        · cases fv with
          | uq dp =>
            obtain ⟨os, r0, t0⟩ := r1
            have hl := hld.resolve_left (by simp)
            have up : Up G.K (Av c (ow own1) dp) (Av c (ow own1) false) H1 H1 := Up.sub (fun _ h => h) (by cases dp <;> rfl)
            cases d with
            | lst l => obtain ⟨a, xs, e1, e2, e3, e4⟩ := r0; exact ⟨own1, os, ok1, RS_ol.mpr ⟨a, xs, e1, e2, e3, RL.up up _ e4⟩, t0, by rw [e2]; exact List.nodup_cons.mpr ⟨List.not_mem_nil, List.nodup_nil⟩⟩
            | dct ks l => obtain ⟨a, kvs, e1, e2, e3, e4, e5⟩ := r0; exact ⟨own1, os, ok1, RS_od.mpr ⟨a, kvs, e1, e2, e3, e4, RL.up up _ e5⟩, t0, by rw [e2]; exact List.nodup_cons.mpr ⟨List.not_mem_nil, List.nodup_nil⟩⟩
            | _ => cases hl
          | sh _ => cases hfo
          | bo _ => cases hfo
        · cases hfo
      obtain ⟨own2, oj, ok2, r2, t2, n2⟩ := key
      obtain ⟨p, dx, flds, hσ, e1, le, own3, ok3, _⟩ := ok2.setM C hf hsh hen hjl hj r2 t2 n2
      exact ⟨.ref p, hσ, p, G.ca c', dx, flds, rfl, e1, by rw [g.K]; exact C.cls, by rw [g.K]; exact C.na f (List.mem_of_getElem? hj), by omega, q _ _ own3 ok3⟩
    · exact q.elim
  · exact q.elim
end
end Pi
namespace Pi
open PySem PySem.Spec PyProof.Rows L2
structure MetX (G : Gb) (j : Nat) (c : Nat) (m : Str) (shs : List Sh) (n : Nat) (fn : List D → Rs D) : Prop where
  ex : ∃ (f : Addr) (fd : FuncData) (ps : List Str), Meth G.K (G.ca c) m f ∧ FnOk G.P G.w G.K G.mg G.base (L2.CX G.P G.w) j f fd ps (spX G shs n fn) ∧ Binds G.K fd ps []
def eMethX (c : Nat) (fn : List D → Rs D) (i : Nat) (ea : En → Rs (List D)) : EvX := fun en => match en[i]? with
  | some (some (.obj c' l)) => if c' = c then bnd (ea en) fun ds => bnd (fn (.obj c' l :: ds)) fun r => match r with
    | .tup [v, d'] => .ok (v, en.set i (some d'))
    | _ => .error .stuck
    else .error .stuck
  | _ => .error .stuck
section
variable {G : Gb} {S : Se} {W : WX} {N : List Str} {sc scope : Scope} {k : Nat} {X : Cx} {F F' F1 F2 F3 F4 Fe Fo : List SF} {f f1 f2 fv : VF} {c : Fr} {en : En} {own own0 own1 : Own} {σ : L2.St} {H H' H0 H1 : Hp} {fl : SF} {sh fs : Sh} {b : Bool}
theorem methX_core {c0 : Nat} {x m : Str} {ks : List Str} {n : Nat} {fn : List D → Rs D} {vfs : List VF} {i : Nat} {ea : En → Rs (List D)} {ta : TA} (C : Ccl G c0 x ks) (hm : m ∉ ks) (ht : ∀ σ H Q, TAv G W F F1 vfs ea σ H Q → ta σ H Q) (hn : vfs.length + 1 = n) (ho : nbL vfs = true) (hf0 : F[i]? = some fl) (hf : F1[i]? = some fl) (hs : fl.shp = some (.m fs)) :
    ∀ σ H Q, TYv G W F F1 (.sh false) (eMethX c0 fn i ea) σ H Q → tMethS (G.ca c0) m (spX G [.m fs] n fn) (WE W) (tVar i) ta σ H Q := by
  rintro σ H Q ⟨c, en, own, ok, mt⟩
  unfold eMethX at mt
  split at mt
  · rename_i c' l he
    split at mt
    · rename_i hc
      subst hc
      obtain ⟨x0, e1, r0, _⟩ := ok.getM hf0 hs he
      obtain ⟨a, dx, flds, r, rfl, eo, q1, q2, q3⟩ := RS_om.mp r0
      rw [C.cf] at q2
      refine ⟨.ref a, e1, a, dx, flds, rfl, q1, lookup_no (fun z => hm (by rw [q2] at z; exact List.take_subset _ _ z)), ht _ _ _ ⟨c, en, own, ok, mt.bnd.imp fun ds _ mx vs H1 own1 ok1 s1 b1 r1 => ?_⟩⟩
      have := spX_of hn ho hf hs ok1 e1 he r1 mx
      rw [List.append_nil] at this
      exact this
    · exact mt.elim
  · exact mt.elim
theorem dy_meth (g : Gd G N sc k W X) {j c0 : Nat} {x m y : Str} {ks : List Str} {n : Nat} {fn : List D → Rs D} {vfs : List VF} {ea : En → Rs (List D)} {e : Expr} {es : List Expr} {px apos pos : Pos} {pl : Sem Bool} (C : Ccl G c0 x ks) (M : MetX G j c0 m [.m fs] n fn) (i : Nat) (ha : PA X (e :: es) (TAv G W F F1 vfs ea))
    (hN : N[i]? = some y := by rfl) (hv : visB sc y = true := by rfl) (hx0 : nameB y = true := by rfl) (hf0 : F[i]? = some fl := by rfl) (hf : F1[i]? = some fl := by rfl) (hs : fl.shp = some (.m fs) := by rfl)
    (hj : j ≤ k := by decide) (hm : m ∉ ks := by decide) (hn : vfs.length + 1 = n := by rfl) (ho : nbL vfs = true := by rfl) (hst : starEach (e :: es) X.env = (false, eval e X.env) :: starEach es X.env := by rfl) (hpl : (backTo pos (starEach es X.env)).any (·.1) = false := by rfl)
    (ht : eval (.Call (.Attribute (.Name y px) m apos) (e :: es) [] pos) X.env = (do
      let ov ← eval (.Name y px) X.env
      standAt apos.atName
      let (f, first) ← holding [ov] (getMethod ov m pl)
      callWith pos f first (backTo pos (starEach (e :: es) X.env)) (backToKw pos (keywordEach [] X.env))) := by rfl) :
    PE X (.Call (.Attribute (.Name y px) m apos) (e :: es) [] pos) (TYv G W F F1 (.sh false) (eMethX c0 fn i ea)) := by
  obtain ⟨fa, fd, ps, hM, hF, hb⟩ := M.ex
  obtain ⟨h1, h2, _⟩ := nameB_d hx0
  exact pe_imp (pe_methSd (pl := pl) (pe_var (pos := px) (i := i) (by rw [g.nN]; exact hN) (visB_vis hv g.sc) h1 h2) (by rw [g.K]; exact C.cls) (by rw [g.K]; exact hM) (g.fnOk hF) (g.room.mono hj) (by rw [g.K]; exact hb) (fun σ => passAt g.tk σ) ha hst hpl ht) (methX_core C hm (fun _ _ _ z => z) hn ho hf0 hf hs)
structure MakX (G : Gb) (j : Nat) (c : Nat) (sh : Sh) (n : Nat) (fn : List D → Rs D) : Prop where
  ex : ∃ (f : Addr) (fd : FuncData) (ps : List Str), Mk G.K (G.ca c) f ∧ FnOk G.P G.w G.K G.mg G.base (L2.CX G.P G.w) j f fd ps (spX G [sh] (n + 1) fn) ∧ Binds G.K fd ps []
def sAsMk (i c : Nat) (fn : List D → Rs D) (ea : En → Rs (List D)) : EvS := fun en => bnd (ea en) fun ds => bnd (fn (.obj c [] :: ds)) fun r => match r with
  | .tup [.non, d'] => .ok (.nx (en.set i (some d')))
  | _ => .error .stuck
theorem ds_asMk (g : Gs G N sc k S.W X) {j c0 : Nat} {x y : Str} {ks : List Str} {n : Nat} {fn : List D → Rs D} {vfs : List VF} {ea : En → Rs (List D)} {e : Expr} {es : List Expr} {p cpos pos pos' : Pos} (C : Ccl G c0 x ks) (M : MakX G j c0 (.m fs) n fn) (i : Nat) (ha : PA X (e :: es) (TAv G S.W F F1 vfs ea))
    (hN : N[i]? = some y := by rfl) (hy : locB sc y = true := by rfl) (hz : zB F1 i = true := by rfl) (hj : j + 1 ≤ k := by decide) (hn : vfs.length = n := by rfl) (ho : nbL vfs = true := by rfl) (hx : glbB sc x = true := by rfl) (hnm : nameB x = true := by rfl)
    (he : starEach (e :: es) X.env = (false, eval e X.env) :: starEach es X.env := by rfl) (hpl : (backTo cpos (starEach es X.env)).any (·.1) = false := by rfl)
    (hs : swapsWith (.Call (.Name x p) (e :: es) [] cpos) (some (.Name y pos')) pos.line X.env = pure false := by rfl) : PS X (.Assign [.Name y pos'] (.Call (.Name x p) (e :: es) [] cpos) pos) (TSv G S F (F1.set i (.dt (.m fs))) (sAsMk i c0 fn ea)) := by
  obtain ⟨f, fd, ps, hM, hF, hb⟩ := M.ex
  have hgl := C.gl
  have pe := pe_makeSd (x := x) (p := p) (pos := cpos) (e := e) (es := es) (by rw [g.g.K]; exact hM) (g.g.fnOk hF) (g.g.room.mono hj) (glbB_gl hx g.g.sc) (by rw [g.g.mg]; exact hgl) (by rw [g.g.K]; exact hb) (fun σ => passAt g.g.tk σ) ha (nameB_d hnm).1 he hpl
  refine ps_imp (ps_set (by rw [g.g.nN]; exact g.g.nd) (by rw [g.g.nN]; exact hN) (locB_loc hy g.g.sc) pe hs (.inl (g.fn y))) ?_
  rintro D σ H ⟨c, en, own, ok, m⟩
  refine ⟨c, en, own, ok, m.bnd.e.imp fun ds _ mx vs H1 own1 ok1 s1 b1 r1 => fun x0 dx hx0 hdx hne => ?_⟩
  have hsame : Same H1 (upd (upd H1 dx (.own x0)) x0 (.ins (G.ca c0) dx [])) := (same_new hdx).trans (same_new (by rw [upd_ne (Ne.symm hne)]; exact hx0))
  have at0 : upd (upd H1 dx (.own x0)) x0 (.ins (G.ca c0) dx []) x0 = some (.ins (G.ca c0) dx []) := upd_same
  have hN1 : ∀ a, ow own1 a → H1 a ≠ none := fun a h => ok1.trk h
  refine ⟨by rw [List.length_cons, r1.len.2, hn], [.obj c0 []], ds, [.ref x0], vs, fun j => if j = 0 then [x0] else [], fun a => Av c (ow own1) false a ∧ a ≠ x0, rfl, ⟨rfl, rfl, fun j sh' d' v' h1 h2 h3 => ?_⟩, ⟨fun j1 j2 a q1 q2 => ?_, fun j hj => if_neg (by simp at hj; omega)⟩, fun a h z => ?_, ?_, ?_⟩
  · cases j with
    | zero =>
      simp at h1 h2 h3
      subst h1 h2 h3
      refine ⟨RS_om.mpr ⟨x0, dx, [], [], rfl, rfl, at0, rfl, by unfold RSP; exact ⟨rfl, rfl⟩⟩, List.nodup_cons.mpr ⟨List.not_mem_nil, List.nodup_nil⟩⟩
    | succ j => simp at h1
  · dsimp only at q1 q2
    split at q1
    · split at q2
      · rename_i a1 a2; rw [a1, a2]
      · cases q2
    · cases q1
  · obtain ⟨j, hj⟩ := z
    dsimp only at hj
    split at hj
    · exact h.2 (List.mem_singleton.mp hj)
    · cases hj
  · have ne : ∀ {a : Addr} {o : HO}, H1 a = some o → a ≠ x0 := fun {a o} e z => by rw [z, hx0] at e; cases e
    have up : Up G.K (Av c (ow own1) false) (fun a => Av c (ow own1) false a ∧ a ≠ x0) H1 (upd (upd H1 dx (.own x0)) x0 (.ins (G.ca c0) dx [])) :=
      ⟨fun a xs m e => ⟨⟨m, ne e⟩, hsame _ _ e⟩, fun a xs m e => ⟨⟨m, e.elim ne fun ⟨o, e⟩ => ne e⟩, e.imp (hsame _ _) fun ⟨o, e⟩ => ⟨o, hsame _ _ e⟩⟩, fun a C dx fs m e => ⟨⟨m, ne e⟩, hsame _ _ e⟩, fun a xs e => e.imp (hsame _ _) fun ⟨o, e⟩ => ⟨o, hsame _ _ e⟩, fun a xs e => e.imp (fun ⟨o, e⟩ => ⟨o, hsame _ _ e⟩) id⟩
    exact RL.up up _ ((r1.rl ho).an fun a z => z.undp)
  · have mx' := mx.bnd
    rw [List.singleton_append]
    cases e : fn (.obj c0 [] :: ds) with
    | error er =>
      rw [e] at mx'
      cases er with
      | stuck => exact mx'.elim
      | raise z => exact fun H2 s2 => mx' σ H2 fun b o nb e => s2 _ _ (hsame _ _ (ok1.same b o nb e))
    | ok r =>
      rw [e] at mx'
      cases r with
      | tup l =>
        cases l with
        | nil => exact mx'.elim
        | cons r0' l =>
          cases l with
          | nil => cases r0' <;> exact mx'.elim
          | cons d' l =>
            cases l with
            | cons _ _ => cases r0' <;> exact mx'.elim
            | nil =>
              cases r0' <;> first | exact mx'.elim | skip
              intro v H2 os' kp al apt fr rs rr
              obtain ⟨_, _, rs⟩ := rs
              obtain ⟨n1, n2⟩ := rs 0 (.m fs) d' (.ref x0) rfl rfl rfl
              refine ⟨rr, ?_⟩
              have in0 : ∀ a, inO (fun j => if j = 0 then [x0] else []) a → a = x0 := fun a ⟨j, hj⟩ => by
                dsimp only at hj
                split at hj
                · exact List.mem_singleton.mp hj
                · cases hj
              have s2 : Same H1 H2 := fun b o e => kp b o (fun z => by rw [in0 b z, hx0] at e; cases e) (hsame b o e)
              have fresh : ∀ a, a ∈ os' 0 → H1 a = none := fun a ha => by
                rcases (fr a ⟨0, ha⟩).2 with z | z
                · rw [in0 a z]; exact hx0
                · cases q : H1 a with
                  | none => rfl
                  | some o => rw [hsame a o q] at z; cases z
              have okr := ok1.resL s2 (os := os' 0) fresh fun a ha => (fr a ⟨0, ha⟩).1
              have avm : ∀ a, ¬ inO os' a ∧ (upd (upd H1 dx (.own x0)) x0 (.ins (G.ca c0) dx []) a = none ∨ inO (fun j => if j = 0 then [x0] else []) a ∨ (Av c (ow own1) false a ∧ a ≠ x0)) → Av c (ow (own1.resL (os' 0))) false a := fun a z => by
                have n0 : a ∉ os' 0 := fun y => z.1 ⟨0, y⟩
                have cases3 : H1 a = none ∨ Av c (ow own1) false a := by
                  rcases z.2 with y | y | y
                  · left
                    cases q : H1 a with
                    | none => rfl
                    | some o => rw [hsame a o q] at y; cases y
                  · left; rw [in0 a y]; exact hx0
                  · exact .inr y.1
                have no1 : ¬ ow own1 a := fun y => cases3.elim (fun q => hN1 a y q) fun q => q.1 y
                refine ⟨fun y => ?_, (fun y => by cases y), cases3.elim (fun q => .inl (ok1.free q)) fun q => q.2.2⟩
                rcases y with y | y | y
                · exact no1 (.inl y)
                · exact no1 (.inr y)
                · exact n0 y
              exact mx' _ H2 _ (okr.putS (zB_of hz).1 (fun a ha => .inr ha) n2 (RS.up (Up.same (Same.refl H2) avm) d' n1 fun _ _ _ z => z))
      | _ => exact mx'.elim
end
end Pi
namespace Pi
open PySem PySem.Spec PyProof.Rows L2
section
variable {G : Gb} {A A' : Addr → Prop} {H H' : Hp}
theorem RSP_mod {d : D} : ∀ {l : List D} {fs : Sh} {xs : List V} {os : List Addr} {j : Nat}, RSP G A H l fs xs os → l[j]? = some d → ∃ x o1 oj o2, xs[j]? = some x ∧ os = o1 ++ (oj ++ o2) ∧ RS G A H d (fs.at j) x oj ∧
    ∀ (A' : Addr → Prop) (H' : Hp) (d' : D) (oj' : List Addr), Up G.K A A' H H' → (∀ a o, a ∈ o1 ++ o2 → H a = some o → H' a = some o) → RS G A' H' d' (fs.at j) x oj' → RSP G A' H' (l.set j d') fs xs (o1 ++ (oj' ++ o2))
  | [], _, _, _, _, _, h => by simp at h
  | d0 :: l, fs, xs, os, 0, h, hj => by
    unfold RSP at h
    obtain ⟨x, r, o1, o2, rfl, rfl, h1, h2⟩ := h
    have e : d0 = d := by simpa using hj
    subst e
    refine ⟨x, [], o1, o2, rfl, by simp, h1, fun A' H' d' oj' u k hd => ?_⟩
    show RSP G A' H' (d' :: l) fs (x :: r) (oj' ++ o2)
    unfold RSP
    exact ⟨x, r, oj', o2, rfl, rfl, hd, RSP.up u l h2 fun a o z => k a o (by simpa using z)⟩
  | d0 :: l, fs, xs, os, j + 1, h, hj => by
    unfold RSP at h
    obtain ⟨x, r, o1, o2, rfl, rfl, h1, h2⟩ := h
    obtain ⟨y, p1, pj, p2, q1, q2, q3, q4⟩ := RSP_mod (j := j) h2 (by simpa using hj)
    refine ⟨y, o1 ++ p1, pj, p2, by simpa using q1, by rw [q2]; simp, q3, fun A' H' d' oj' u k hd => ?_⟩
    show RSP G A' H' (d0 :: l.set j d') fs (x :: r) _
    unfold RSP
    exact ⟨x, r, o1, p1 ++ (oj' ++ p2), rfl, by simp, RS.up u d0 h1 fun a o z => k a o (by simp [z]), q4 A' H' d' oj' u (fun a o z => k a o (by
      rcases List.mem_append.mp z with z | z <;> simp [z])) hd⟩
end
def sAppF (i c j : Nat) (ev : EvE) : EvS := fun en => match en[i]? with
  | some (some (.obj c' l)) => if c' = c then (match l[j]? with
    | some (.lst m) => if m.length < sizeLine then bnd (ev en) fun d => .ok (.nx (en.set i (some (.obj c (l.set j (.lst (m ++ [d]))))))) else .error .stuck
    | _ => .error .stuck) else .error .stuck
  | _ => .error .stuck
section
variable {G : Gb} {S : Se} {W : WX} {N : List Str} {sc scope : Scope} {k : Nat} {X : Cx} {F F' F1 F2 F3 F4 Fe Fo : List SF} {f f1 f2 fv : VF} {c : Fr} {en : En} {own own0 own1 : Own} {σ : L2.St} {H H' H0 H1 : Hp} {fl : SF} {sh fs : Sh} {b : Bool}
theorem Ok.fldL {c0 j : Nat} {x : Str} {ks : List Str} {l m : List D} {i : Nat} (ok : Ok G c F en own σ H) (C : Ccl G c0 x ks) (hf : F[i]? = some fl) (hsh : fl.shp = some (.m fs)) (hfj : fs.at j = .o .s) (hen : en[i]? = some (some (.obj c0 l))) (hl : l[j]? = some (.lst m)) :
    ∃ a dx flds p xs, σ[i]? = some (some (.ref a)) ∧ H a = some (.ins (G.ca c0) dx flds) ∧ flds.map (·.1) = ks.take l.length ∧ (flds.map (·.2))[j]? = some (.ref p) ∧ H p = some (.lst xs) ∧ RL G (Av c (ow own) false) H m xs ∧ ¬ Av c (ow own) false p ∧
      ∀ (m' : List D) (xs' : List V), RL G (Av c (ow own) false) H m' xs' → Ok G c F (en.set i (some (.obj c0 (l.set j (.lst m'))))) own σ (upd H p (.lst xs')) := by
  obtain ⟨xv, hσ, hR, nd, hvl⟩ := ok.getM hf hsh hen
  have wr := RS.wr _ hR
  obtain ⟨a, dx, flds, os, rfl, eo, e1, e2, e3⟩ := RS_om.mp hR
  rw [C.cf] at e2
  obtain ⟨y, o1, oj, o2, q1, q2, q3, q4⟩ := RSP_mod e3 hl
  rw [hfj] at q3 q4
  obtain ⟨p, xs, rfl, rfl, hp, rl⟩ := RS_ol.mp q3
  have pin : p ∈ own.sl i := by rw [eo, q2]; simp
  refine ⟨a, dx, flds, p, xs, hσ, e1, e2, q1, hp, rl, fun z => z.1 (.inl ⟨i, pin⟩), fun m' xs' r' => ?_⟩
  have nA : ¬ Av c (ow own) false p := fun z => z.1 (.inl ⟨i, pin⟩)
  have up : Up G.K (Av c (ow own) false) (Av c (ow own) false) H (upd H p (.lst xs')) := Up.write hp trivial nA
  have nd' : (a :: (o1 ++ ([p] ++ o2))).Nodup := by rw [← q2, ← eo]; exact nd
  obtain ⟨n1, n2⟩ := List.nodup_cons.mp nd'
  have apn : a ≠ p := fun e => n1 (by rw [e]; simp)
  obtain ⟨m1, m2, m3⟩ := List.nodup_append.mp n2
  have m4 : p ∉ o2 := (List.nodup_cons.mp (by simpa using m2)).1
  have eow : (⟨fun k => if k = i then own.sl i else own.sl k, own.tm⟩ : Own) = own := by
    have : (fun k => if k = i then own.sl i else own.sl k) = own.sl := funext fun k => by
      split
      · rename_i ej; rw [ej]
      · rfl
    rw [this]
  have new : RS G (Av c (ow own) false) (upd H p (.lst xs')) (.obj c0 (l.set j (.lst m'))) (.m fs) (.ref a) (own.sl i) := by
    refine RS_om.mpr ⟨a, dx, flds, os, rfl, eo, by rw [upd_ne apn]; exact e1, by rw [C.cf, List.length_set]; exact e2, ?_⟩
    rw [q2]
    refine q4 _ _ (.lst m') [p] up (fun z o hz e => ?_) (RS_ol.mpr ⟨p, xs', rfl, rfl, upd_same, RL.up up _ r'⟩)
    rw [upd_ne (fun y => ?_)]
    · exact e
    · rw [y] at hz
      rcases List.mem_append.mp hz with z | z
      · exact m3 p z p (by simp) rfl
      · exact m4 z
  have al : ∀ z, z ∈ own.sl i → upd H p (.lst xs') z ≠ none := fun z hz => by
    by_cases e : z = p
    · rw [e, upd_same]; simp
    · rw [upd_ne e]; exact (ok.nw i z hz).1
  have := ok.chM (os' := own.sl i) hf hsh hσ wr hvl (fun z o nz e => by rw [upd_ne (fun y => nz (by rw [y]; exact pin))]; exact e) al nd (fun z hz => ⟨al z hz, .inl hz⟩) (by rw [eow]; exact new)
  rw [eow] at this
  exact this
theorem ds_appF (g : Gv G N sc X) {c0 j : Nat} {x fn : Str} {ks : List Str} (C : Ccl G c0 x ks) (i : Nat) {y : Str} {e : Expr} {px fpos apos cpos pos : Pos} {ev : EvE} (he : PE X e (TEv G S.W F F fv ev)) (hN : N[i]? = some y := by rfl) (hv : visB sc y = true := by rfl) (hx : nameB y = true := by rfl) (hf : F[i]? = some fl := by rfl) (hsh : fl.shp = some (.m fs) := by rfl) (hfj : fs.at j = .o .s := by rfl) (hn : fv.nb = true := by rfl) (hj : ks[j]? = some fn := by rfl)
    (hb : attributeBase (.Name y px) fn X.env (eval (.Name y px) X.env) = eval (.Name y px) X.env := by rfl) (hs : starEach [e] X.env = [(false, eval e X.env)] := by rfl) (hline : (apos.endLine == cpos.line) = true := by rfl) :
    PS X (.Expr (.Call (.Attribute (.Attribute (.Name y px) fn fpos) "append" apos) [e] [] cpos) pos) (TSv G S F F (sAppF i c0 j ev)) := by
  obtain ⟨h1, h2, _⟩ := nameB_d hx
  refine ps_imp (ps_expr (pe_bm PySem.F.plainAttrs_list PySem.F.slot_list_append PySem.F.type_list_append mt_append (pe_fld (pos := fpos) (f := fn) (pe_var (pos := px) (i := i) (by rw [g.nN]; exact hN) (visB_vis hv g.sc) h1 h2) hb) (pa_cons he pa_nil hs) rfl (by rw [hs]; rfl) hline hs rfl) rfl) ?_
  rintro D σ H ⟨c, en, own, ok, mt⟩
  unfold sAppF at mt
  split at mt
  · rename_i c' l hen
    split at mt
    · rename_i hc
      subst hc
      split at mt
      · rename_i m hl
        split at mt
        · rename_i hlen
          obtain ⟨a, dx, flds, p, xs, hσ, e1, e2, e3, hp, rl, _, _⟩ := ok.fldL C hf hsh hfj hen hl
          have nd2 : (ks.take l.length).Nodup := C.nd.sublist (List.take_sublist _ _)
          have hjl : j < l.length := (List.getElem?_eq_some_iff.mp hl).1
          refine ⟨.ref a, hσ, a, G.ca c', dx, flds, .ref p, rfl, e1, by rw [g.K]; exact C.cls, by rw [g.K]; exact C.na fn (List.mem_of_getElem? hj), ?_, .inl ⟨rfl, xs, SqL.of hp⟩, c, en, own, ok, mt.bnd.e.imp fun d _ q v H1 own1 ok1 s1 b1 r1 => ?_⟩
          · rw [lookup_at e2 nd2 (j := j) (f := fn) (by rw [List.getElem?_take_of_lt hjl]; exact hj)]
            exact e3
          · obtain ⟨own2, ok2, k2, a2⟩ := RV.share (f := fv) ok1 r1 hn
            obtain ⟨a', dx', flds', p', xs', hσ', e1', e2', e3', hp', rl', _, mk⟩ := ok2.fldL C hf hsh hfj hen hl
            have ea : a = a' := sig_inj hσ hσ'
            subst ea
            have : H1 a = some (.ins (G.ca c') dx flds) := s1 a _ e1
            rw [this] at e1'
            cases e1'
            rw [e3] at e3'
            cases e3'
            have a3 : R G (Av c (ow own2) false) H1 d v := R.up (Up.sub (fun _ h => h) (by cases fv.dp <;> rfl)) _ a2
            refine ⟨p, xs', v, rfl, rfl, hp', by rw [rl'.len]; exact hlen, q σ _ own2 (mk (m ++ [d]) (xs' ++ [v]) (RL.app rl' (RL.cons a3 RL.nil)))⟩
        · exact mt.elim
      · exact mt.elim
    · exact mt.elim
  · exact mt.elim
end
end Pi
namespace L2
open PySem PySem.Spec PyProof.Rows
end L2
namespace Pi
open PySem PySem.Spec PyProof.Rows L2
section
variable {G : Gb} {S : Se} {W : WX} {N : List Str} {sc scope : Scope} {k : Nat} {X : Cx} {F F' F1 F2 F3 F4 Fe Fo : List SF} {f f1 f2 fv : VF} {c : Fr} {en : En} {own own0 own1 : Own} {σ : L2.St} {H H' H0 H1 : Hp} {fl : SF} {sh fs : Sh} {b : Bool}
theorem RL.dropLast {A : Addr → Prop} : ∀ {ds : List D} {xs : List V}, RL G A H ds xs → RL G A H ds.dropLast xs.dropLast
  | [], xs, h => by rw [show xs = [] from h]; exact rfl
  | [d], xs, h => by
    obtain ⟨x, r, rfl, h1, h2⟩ := h
    rw [show r = [] from h2]
    exact rfl
  | d :: e :: ds, xs, h => by
    obtain ⟨x, r, rfl, h1, h2⟩ := h
    obtain ⟨y, r', rfl, h3, h4⟩ := h2
    exact ⟨x, (y :: r').dropLast, rfl, h1, RL.dropLast (ds := e :: ds) ⟨y, r', rfl, h3, h4⟩⟩
end
end Pi
namespace Pi
open PySem PySem.Spec PyProof.Rows L2
section
variable {G : Gb} {S : Se} {W : WX} {N : List Str} {sc scope : Scope} {k : Nat} {X : Cx} {F F' F1 F2 F3 F4 Fe Fo : List SF} {f f1 f2 fv : VF} {c : Fr} {en : En} {own own0 own1 : Own} {σ : L2.St} {H H' H0 H1 : Hp} {fl : SF} {sh fs : Sh} {b : Bool}
end
end Pi
namespace Pi
open PySem PySem.Spec PyProof.Rows L2
def sYtu (is : List Nat) (ev : EvX) : EvS := fun en => bnd (ev en) fun p => match p.1 with
  | .tup ds => if ds.length = is.length then .ok (.nx (setAll p.2 is ds)) else .error .stuck
  | _ => .error .stuck
section
variable {G : Gb} {S : Se} {W : WX} {N : List Str} {sc scope : Scope} {k : Nat} {X : Cx} {F F' F1 F2 F3 F4 Fe Fo : List SF} {f f1 f2 fv : VF} {c : Fr} {en : En} {own own0 own1 : Own} {σ : L2.St} {H H' H0 H1 : Hp} {fl : SF} {sh fs : Sh} {b : Bool}
theorem ds_ytu (g : Gs G N sc k S.W X) (is : List Nat) {es : List Expr} {e : Expr} {n : Nat} {pos tp : Pos} {ev : EvX} (he : PE X e (TYv G S.W F F1 f ev)) (ht : tgB N sc F1 is es = true := by rfl) (hs : swapsWithSole [.Tuple es n tp] e pos.line X.env = pure false := by rfl)
    (hw : swappedStores [.Tuple es n tp] e X.env = pure none := by rfl) : PS X (.Assign [.Tuple es n tp] e pos) (TSv G S F (setF F1 (.s f.dp) is) (sYtu is ev)) := by
  obtain ⟨h1, h2, h3⟩ := dg_names g.g.nN g.g.nd g.g.sc (fun x _ => .inl (g.fn x)) ht
  refine ps_imp (ps_asg he (pg_tup (n := is.length) g.g.calm h1 h2 h3) hs hw rfl) ?_
  rintro D σ H ⟨c, en, own, ok, m⟩
  refine ⟨c, en, own, ok, m.bnd.e.imp fun p hp q v H1 own1 ok1 r1 => ?_⟩
  clear hp
  obtain ⟨d, en'⟩ := p
  cases d <;> first | exact q.elim | skip
  rename_i ds
  dsimp only at q
  split at q
  · rename_i hl
    obtain ⟨a, xs, rfl, hq, rl⟩ := r1.b
    refine ⟨a, xs, rfl, by rw [g.g.K]; exact hq, by rw [rl.len]; exact hl, names_core ht ok1 rl hl fun σ' own' ok' _ => q σ' H1 own' ok'⟩
  · exact q.elim
end
end Pi
namespace Pi
open PySem PySem.Spec PyProof.Rows L2
section
variable {G : Gb}
end
end Pi
namespace Pi
open PySem PySem.Spec PyProof.Rows L2
section
variable {G : Gb} {S : Se} {W : WX} {N : List Str} {sc scope : Scope} {k : Nat} {X : Cx} {F F' F1 F2 F3 F4 Fe Fo : List SF} {f f1 f2 fv : VF} {c : Fr} {en : En} {own own0 own1 : Own} {σ : L2.St} {H H' H0 H1 : Hp} {fl : SF} {sh fs : Sh} {b : Bool}
end
section
variable {G : Gb} {S : Se} {W : WX} {N : List Str} {sc scope : Scope} {k : Nat} {X : Cx} {F F' F1 F2 F3 F4 Fe Fo : List SF} {f f1 f2 fv : VF} {c : Fr} {en : En} {own own0 own1 : Own} {σ : L2.St} {H H' H0 H1 : Hp} {fl gl : SF} {sh sg fs : Sh} {b : Bool}
def Own.two (own : Own) (i j : Nat) (o1 o2 : List Addr) : Own := ⟨fun k => if k = i then o1 else if k = j then o2 else own.sl k, own.tm⟩
end
end Pi
namespace Pi
open PySem PySem.Spec PyProof.Rows L2
abbrev wB (W : WX) (σ : L2.St) : WX := fun cls d _ H => W cls d σ H
end Pi
namespace Pi
open PySem PySem.Spec PyProof.Rows L2
section
variable {X : Cx}
end
end Pi
namespace Pi
open PySem PySem.Spec PyProof.Rows L2
section
variable {G : Gb} {S : Se} {W : WX} {N : List Str} {sc scope : Scope} {k : Nat} {X : Cx} {F F1 F2 F3 F4 Fh : List SF} {Fo : List SF} {f f1 f2 : VF} {c : Fr} {en : En} {own own0 own1 : Own} {σ : L2.St} {H H' H0 H1 : Hp} {Da : Addr} {vs : List Nat}
theorem Mt.blk {α β : Type} {r : Rs α} {g : α → Rs β} {q : β → Prop} {k : α → Prop} {cb : Fr} {σ2 : L2.St} (h : Mt G W c σ (Pi.bnd r g) q) (hs : ∀ H', cb.Sm H' → c.Sm H') (m : ∀ a, r = .ok a → Mt G W c σ (g a) q → k a) : Mt G (wB W σ) cb σ2 r k := by
  cases r with
  | ok a => exact m a rfl h
  | error e => cases e with
    | raise e => exact fun H' s => h H' (hs H' s)
    | stuck => exact h
end
end Pi
namespace Pi
open PySem PySem.Spec PyProof.Rows L2
section
variable {G : Gb} {S : Se} {W : WX} {N : List Str} {sc scope : Scope} {k : Nat} {X : Cx} {F F' F1 F2 F3 : List SF} {f f1 f2 : VF} {c : Fr} {en : En} {own own0 own1 : Own} {σ : L2.St} {H H' H0 H1 : Hp} {Fo : List SF}
end
end Pi
namespace Pi
open PySem PySem.Spec PyProof.Rows L2
section
variable {G : Gb} {S : Se} {W : WX} {N : List Str} {sc scope : Scope} {k : Nat} {X : Cx} {F F1 F2 F3 F4 Fh : List SF} {Fo : List SF} {f f1 f2 : VF} {c : Fr} {en : En} {own own0 own1 : Own} {σ : L2.St} {H H' H0 H1 : Hp} {Da : Addr} {vs : List Nat}
def iO (j : Nat) : EvI := fun en => getL j en
theorem getL_some {j : Nat} {en : En} {ds : List D} (h : getL j en = .ok ds) : en[j]? = some (some (.lst ds)) := by
  unfold getL at h
  split at h
  · rename_i l e; cases h; exact e
  · cases h
theorem its_own {dp : Bool} {ds : List D} {p : Addr} (ok : Ok G c F en own σ H) {j : Nat} (hF : F[j]? = some (.o dp)) (he : en[j]? = some (some (.lst ds))) (hp : σ[j]? = some (some (.ref p))) {i : Nat} {d : D} (hd : ds[i]? = some d) : (Itl G.K p).go i H ∧ ∀ x H', (Itl G.K p).yld i H x H' → Same H H' ∧ R G (Av c (ow own) dp) H' d x := by
  obtain ⟨q, xs, e1, e2, e3, e4⟩ := ok.ownL hF he
  have ep := sig_inj hp e1
  subst ep
  obtain ⟨x, ex, rx⟩ := e4.get hd
  refine ⟨⟨xs, x, SqL.of e3, ex⟩, fun y H' yy => ?_⟩
  obtain ⟨rfl, h⟩ := yy
  have := h xs (SqL.of e3)
  rw [ex] at this
  cases this
  exact ⟨Same.refl _, rx⟩
theorem its_end {dp : Bool} {ds : List D} {p : Addr} (ok : Ok G c F en own σ H) {j : Nat} (hF : F[j]? = some (.o dp)) (he : en[j]? = some (some (.lst ds))) (hp : σ[j]? = some (some (.ref p))) : (Itl G.K p).stop ds.length H := by
  obtain ⟨q, xs, e1, e2, e3, e4⟩ := ok.ownL hF he
  have ep := sig_inj hp e1
  subst ep
  exact ⟨xs, SqL.of e3, by rw [e4.len]; exact Nat.le_refl _⟩
theorem lcO_core {gg : TG} {tt : TT} {te : TE} {dpi : Bool} {is : List Nat} {set : En → D → Option En} {t : En → Rs Bool} {ee : EvE} {tg : Expr} {X' : Cx} {j : Nat} (hF : F[j]? = some (.o dpi))
    (hg : TgO G X' tg gg (blkF vs F) F2 false is set) (ht : ∀ σ H Q, TTv G wF F2 F3 t σ H Q → tt σ H Q) (he : ∀ σ H Q, TEv G wF F3 F4 f ee σ H Q → te σ H Q) (his : ∀ i, i ∈ is → i ∈ vs) (hn : f.nb = true) :
    ∀ σ H Q, TEv G W F F (.uq f.dp) (eLc vs (iO j) set t ee) σ H Q → tLc (iList G.K (tVar j)) gg tt te vs σ H Q := by
  rintro σ H Q ⟨c, en, own, ok, m⟩
  unfold eLc at m
  cases hv0 : getL j en with
  | error e =>
    have : iO j en = .error e := hv0
    rw [this] at m
    cases e with
    | raise e =>
      exfalso
      unfold getL at hv0
      revert hv0
      split <;> intro z <;> cases z
    | stuck => exact m.elim
  | ok ds =>
    have hv : en[j]? = some (some (.lst ds)) := getL_some hv0
    have ei : iO j en = .ok ds := hv0
    rw [ei] at m
    obtain ⟨l, el, q⟩ := noR_ok (Mt.bnd m)
    split at q
    · rename_i hlen
      obtain ⟨p, xs, e1, e2, e3, e4⟩ := ok.ownL hF hv
      refine ⟨.ref p, e1, p, rfl, ⟨xs, SqL.of e3⟩, fun D hD => ?_⟩
      have ok1 := ok
      have hfin : ∀ {H2 : Hp}, Same H H2 → H2 D ≠ none → Ok G c F en (own.resL [D]) σ H2 := fun sH nD => ok1.resL sH (fun a ha => by rw [show a = D by simpa using ha]; exact hD) (fun a ha => by rw [show a = D by simpa using ha]; exact nD)
      refine ⟨fun i m H2 => m = ds.length - i ∧ i ≤ ds.length ∧ Same H H2 ∧ ∃ acc done rest, H2 D = some (.lst acc) ∧ RL G (Av c (ow (own.resL [D])) f.dp) H2 done acc ∧ evLc set t ee (wipE vs en) (ds.drop i) = .ok rest ∧ done ++ rest = l, ⟨_, rfl, Nat.zero_le _, same_new hD, [], [], l, upd_same, rfl, el, rfl⟩, ?_⟩
      rintro i m H2 ⟨rfl, hi, sH, acc, done, rest, hHD, hRL, hev, hl⟩
      have okP : Ok G (c.pin own H) F en (own.resL [D]) σ H2 := ok1.pin.resL sH (fun a ha => by rw [show a = D by simpa using ha]; exact hD) (fun a ha => by rw [show a = D by simpa using ha, hHD]; simp)
      by_cases hlt : i < ds.length
      · have hd : ds[i]? = some ds[i] := List.getElem?_eq_getElem hlt
        rw [List.drop_eq_getElem_cons hlt] at hev
        obtain ⟨en1, e1', hev⟩ := bnd_ok' hev
        obtain ⟨b, e2', hev⟩ := bnd_ok' hev
        obtain ⟨hgo, hy⟩ := its_own okP hF hv e1 hd
        refine .inr ⟨hgo, fun H5 => Same H H5 ∧ ∃ acc done rest, H5 D = some (.lst acc) ∧ RL G (Av c (ow (own.resL [D])) f.dp) H5 done acc ∧ evLc set t ee (wipE vs en) (ds.drop (i + 1)) = .ok rest ∧ done ++ rest = l, fun H5 q5 => ⟨_, by omega, rfl, hlt, q5.1, q5.2⟩, fun x H' y => ?_⟩
        obtain ⟨sm, rx⟩ := hy x H' y
        have blk := blk_ok (vs := vs) ok1 hD (sH.trans sm) (sm _ _ hHD)
        refine hg.ok blk (R.up up_in _ rx) (ofO_ok' e1') fun σ2 own2 ok2 _ z => ⟨wipe_eq his z.1 z.2, ht _ _ _ ⟨_, en1, own2, ok2, ?_⟩⟩
        rw [e2']
        intro H3 own3 ok3 s3 b3
        cases b with
        | false =>
          rw [if_neg (by decide)] at hev ⊢
          exact ⟨(sH.trans sm).trans s3, acc, done, rest, s3 _ _ (sm _ _ hHD), RL.up (Up.same (sm.trans s3) fun _ h => h) _ hRL, hev, hl⟩
        | true =>
          rw [if_pos rfl] at hev ⊢
          obtain ⟨y', e3', hev⟩ := bnd_ok' hev
          obtain ⟨r, e4', hev⟩ := bnd_ok' hev
          cases hev
          refine he _ _ _ ⟨_, en1, own3, ok3, ?_⟩
          rw [e3']
          intro v H4 own4 ok4 s4 b4 r4
          obtain ⟨own5, ok5, sb5, a4⟩ := r4.share ok4 hn
          have hD4 : H4 D = some (.lst acc) := s4 _ _ (s3 _ _ (sm _ _ hHD))
          have s14 : Same H H4 := ((sH.trans sm).trans s3).trans s4
          have nA : ¬ Av c (ow (own.resL [D])) f.dp D := fun z => z.1 (.inr (.inr (by simp)))
          have hlen2 : acc.length < sizeLine := by
            rw [hRL.len]
            have := congrArg List.length hl
            simp only [List.length_append, List.length_cons] at this
            omega
          refine ⟨acc, hD4, hlen2, fun b o e => ?_, acc ++ [v], done ++ [y'], r, upd_same, RL.app (RL.up (Up.write hD4 trivial nA) _ (RL.up (Up.same ((sm.trans s3).trans s4) fun _ h => h) _ hRL)) (RL.cons (R.up (Up.write hD4 trivial nA) _ (R.up (up_out ok1 hD) _ a4)) RL.nil), e4', by rw [← hl]; simp⟩
          rw [upd_ne (fun z => by rw [z, hD] at e; cases e)]
          exact s14 _ _ e
      · have e : i = ds.length := by omega
        subst e
        rw [List.drop_length] at hev
        cases hev
        rw [List.append_nil] at hl
        subst hl
        have okf := hfin sH (by rw [hHD]; simp)
        exact .inl ⟨its_end okP hF hv e1, q (.ref D) H2 _ okf sH (sub_resL fun a ha => by rw [show a = D by simpa using ha]; exact hD) ⟨[D], ⟨D, acc, rfl, rfl, hHD, hRL⟩, fun a ha => .inr ha⟩⟩
    · exact q.elim
theorem de_lcO (g : Gd G N sc k W X) (j : Nat) (own : List (Str × Nat)) {elt tg : Expr} {x : Str} {px : Pos} {ifs : List Expr} {pos : Pos} {gg : TG} {dpi : Bool} {is : List Nat} {set : En → D → Option En} {t : En → Rs Bool} {ee : EvE} (ok : BlkOk N sc scope own)
    (hg : ∀ X', Gd G N (rl sc scope) k wF X' → (∀ x, scope.names.lookup x = some .cell → X'.fn x = true) → TgO G X' tg gg (blkF (own.map (·.2)) F) F2 false is set) (ht : ∀ X', Gd G N (rl sc scope) k wF X' → PTs X' ifs (TTv G wF F2 F3 t)) (he : ∀ X', Gd G N (rl sc scope) k wF X' → PE X' elt (TEv G wF F3 F4 f ee))
    (hF : F[j]? = some (.o dpi) := by rfl) (hN : N[j]? = some x := by rfl) (hv : visB sc x = true := by rfl) (hx : nameB x = true := by rfl)
    (his : ∀ i, i ∈ is → i ∈ own.map (·.2) := by decide) (hn : f.nb = true := by rfl) (hs : ∀ y, foldedSetIterable (.Name x px) X.env y = pure y := by intro _; rfl) : PE X (.ListComp elt [⟨tg, .Name x px, ifs, 0⟩] scope pos) (TEv G W F F (.uq f.dp) (eLc (own.map (·.2)) (iO j) set t ee)) := by
  obtain ⟨h1, h2, _⟩ := nameB_d hx
  refine pe_imp (pe_lc g.calm (by rw [g.nN]; exact g.nd) (pi_list (pe_var (i := j) (by rw [g.nN]; exact hN) (visB_vis hv g.sc) h1 h2)) (by rw [g.nN, g.sc]; exact ok) (fun s H C cl fp => (hg _ g.blk blkFn).pg) (fun s H C cl fp => ht _ g.blk) (fun s H C cl fp => he _ g.blk) hs) ?_
  rw [g.K]
  exact lcO_core hF (hg _ (g.blk (s := X.s_0) (H := X.H_0) (C := 0) (cl := []) (fp := [])) blkFn) (fun _ _ _ z => z) (fun _ _ _ z => z) his hn
end
end Pi
namespace Pi
open PySem PySem.Spec PyProof.Rows L2
section
variable {G : Gb} {S : Se} {W : WX} {N : List Str} {sc scope : Scope} {k : Nat} {X : Cx} {F F' F1 F2 F3 F4 Fe Fo : List SF} {f f1 f2 fv : VF} {c : Fr} {en : En} {own own0 own1 : Own} {σ : L2.St} {H H' H0 H1 : Hp} {fl : SF} {sh fs : Sh} {b : Bool}
theorem de_fldB (g : Gv G N sc X) {c0 j : Nat} {x fn : Str} {ks : List Str} (C : Ccl G c0 x ks) (i : Nat) {y : Str} {px pos : Pos} (hN : N[i]? = some y := by rfl) (hv : visB sc y = true := by rfl) (hx : nameB y = true := by rfl) (hf : F[i]? = some fl := by rfl) (hsh : fl.shp = some (.m fs) := by rfl)
    (hsj : fs.at j = .o .s := by rfl) (hj : ks[j]? = some fn := by rfl) (hb : attributeBase (.Name y px) fn X.env (eval (.Name y px) X.env) = eval (.Name y px) X.env := by rfl) : PE X (.Attribute (.Name y px) fn pos) (TEv G W F F (.bo false) (eFld c0 j (eVar i))) := by
  obtain ⟨h1, h2, _⟩ := nameB_d hx
  refine pe_imp (pe_fld (pe_var (pos := px) (i := i) (by rw [g.nN]; exact hN) (visB_vis hv g.sc) h1 h2) hb) ?_
  rintro σ H Q ⟨c, en, own, ok, m⟩
  have q0 := m.bnd
  clear m
  unfold eVar at q0
  split at q0
  case h_2 => exact q0.elim
  rename_i d hd
  have q : Mt G W c σ (match d with
    | .obj c' l => if c' = c0 then ofO l[j]? else .error .stuck
    | _ => .error .stuck) _ := q0
  clear q0
  cases d <;> first | exact q.elim | skip
  rename_i c' l
  dsimp only at q
  split at q
  · rename_i hc
    subst hc
    obtain ⟨d', ed, q⟩ := q.ofO
    obtain ⟨xv, hσ, hR, nd, hvl⟩ := ok.getM hf hsh hd
    obtain ⟨a, dx, flds, os, rfl, eo, e1, e2, e3⟩ := RS_om.mp hR
    rw [C.cf] at e2
    obtain ⟨w, o1, oj, o2, q1, q2, q3, _⟩ := RSP_mod e3 ed
    rw [hsj] at q3
    have nd2 : (ks.take l.length).Nodup := C.nd.sublist (List.take_sublist _ _)
    have hjl : j < l.length := (List.getElem?_eq_some_iff.mp ed).1
    refine ⟨.ref a, hσ, a, G.ca c', dx, flds, w, rfl, e1, by rw [g.K]; exact C.cls, by rw [g.K]; exact C.na fn (List.mem_of_getElem? hj), ?_, q w H own ok (Same.refl H) sub_refl ?_⟩
    · rw [lookup_at e2 nd2 (j := j) (f := fn) (by rw [List.getElem?_take_of_lt hjl]; exact hj)]
      exact q1
    · show RB G (Av c (ow own) false) H d' w
      cases d' with
      | lst m => obtain ⟨p, xs, rfl, _, h3, h4⟩ := RS_ol.mp q3; exact ⟨p, xs, rfl, h3, h4⟩
      | dct ks' m => obtain ⟨p, kvs, rfl, _, h3, h4, h5⟩ := RS_od.mp q3; exact ⟨p, kvs, rfl, .inl h3, h4, h5⟩
      | tup m => unfold RS at q3; obtain ⟨a', xs, e5, e6, e7⟩ := q3; show R G _ H (.tup m) w; unfold R; exact ⟨a', xs, e5, e6, (RSP_s.mp e7).2⟩
      | obj c2 m => unfold RS at q3; exact absurd q3.1 (by simp)
      | scr m => unfold RS at q3; exact q3.2
      | non => unfold RS at q3; exact q3.2
      | bl z => unfold RS at q3; exact q3.2
      | int z => unfold RS at q3; exact q3.2
      | str z => unfold RS at q3; exact q3.2
      | exc z => unfold RS at q3; exact q3.elim
  · exact q.elim
def sSubF (i c j : Nat) (ek ev : EvE) : EvS := fun en => match en[i]? with
  | some (some (.obj c' l)) => if c' = c then (match l[j]? with
    | some (.lst m) => bnd (ev en) fun d => bnd (ek en) fun kd => match kd with
      | .int z => (match ixN m.length z with
        | some n => .ok (.nx (en.set i (some (.obj c (l.set j (.lst (m.set n d)))))))
        | none => .error .stuck)
      | _ => .error .stuck
    | _ => .error .stuck) else .error .stuck
  | _ => .error .stuck
theorem ds_subF (g : Gv G N sc X) {c0 j : Nat} {x fn : Str} {ks : List Str} (C : Ccl G c0 x ks) (i : Nat) {y : Str} {e ix : Expr} {px fpos spos pos : Pos} {ek ev : EvE} (he : PE X e (TEv G S.W F F fv ev)) (hi : PE X ix (TEv G S.W F F f2 ek)) (hN : N[i]? = some y := by rfl) (hv : visB sc y = true := by rfl) (hx : nameB y = true := by rfl) (hf : F[i]? = some fl := by rfl) (hsh : fl.shp = some (.m fs) := by rfl) (hfj : fs.at j = .o .s := by rfl) (hn : fv.nb = true := by rfl) (hj : ks[j]? = some fn := by rfl)
    (hb : attributeBase (.Name y px) fn X.env (eval (.Name y px) X.env) = eval (.Name y px) X.env := by rfl)
    (hs : swapsWithSole [.Subscript (.Attribute (.Name y px) fn fpos) ix spos] e pos.line X.env = pure false := by rfl) (hw : swappedStores [.Subscript (.Attribute (.Name y px) fn fpos) ix spos] e X.env = pure none := by rfl)
    (ha : ∀ v, assign (.Subscript (.Attribute (.Name y px) fn fpos) ix spos) X.env v = (do
      let ov ← holding [v] (eval (.Attribute (.Name y px) fn fpos) X.env)
      let iv ← holding [v, ov] (eval ix X.env)
      standAt spos
      holding [v, ov, iv] (setItem ov iv v)
      release [v, ov, iv] []) := by intro _; rfl) :
    PS X (.Assign [.Subscript (.Attribute (.Name y px) fn fpos) ix spos] e pos) (TSv G S F F (sSubF i c0 j ek ev)) := by
  obtain ⟨h1, h2, _⟩ := nameB_d hx
  refine ps_imp (ps_asg he (pg_sub (pe_fld (pos := fpos) (f := fn) (pe_var (pos := px) (i := i) (by rw [g.nN]; exact hN) (visB_vis hv g.sc) h1 h2) hb) hi set_list ha) hs hw rfl) ?_
  rintro D σ H ⟨c, en, own, ok, mt⟩
  unfold sSubF at mt
  split at mt
  · rename_i c' l hen
    split at mt
    · rename_i hc
      subst hc
      split at mt
      · rename_i m hl
        have nd2 : (ks.take l.length).Nodup := C.nd.sublist (List.take_sublist _ _)
        have hjl : j < l.length := (List.getElem?_eq_some_iff.mp hl).1
        refine ⟨c, en, own, ok, mt.bnd.e.imp fun d _ q v H1 own1 ok1 s1 b1 r1 => ?_⟩
        obtain ⟨own1', ok1', k1, a1⟩ := RV.share (f := fv) ok1 r1 hn
        obtain ⟨a, dx, flds, p, xs, hσ, e1, e2, e3, hp, rl, _, _⟩ := ok1'.fldL C hf hsh hfj hen hl
        refine ⟨.ref a, hσ, a, G.ca c', dx, flds, .ref p, rfl, e1, by rw [g.K]; exact C.cls, by rw [g.K]; exact C.na fn (List.mem_of_getElem? hj), ?_, c, en, own1', ok1', q.bnd.e.imp fun kd hkd q v2 H2 own2 ok2 s2 b2 r2 => ?_⟩
        · rw [lookup_at e2 nd2 (j := j) (f := fn) (by rw [List.getElem?_take_of_lt hjl]; exact hj)]
          exact e3
        · obtain ⟨a', dx', flds', p', xs', hσ', e1', e2', e3', hp', rl', _, mk⟩ := ok2.fldL C hf hsh hfj hen hl
          have ea : a = a' := sig_inj hσ hσ'
          subst ea
          have : H2 a = some (.ins (G.ca c') dx flds) := s2 a _ e1
          rw [this] at e1'
          cases e1'
          rw [e3] at e3'
          cases e3'
          clear hkd
          cases kd <;> first | exact q.elim | skip
          rename_i z
          dsimp only at q
          split at q
          · rename_i nn hz
            have a3 : R G (Av c (ow own2) false) H2 d v := R.up (Up.grow s2 b2 (by cases fv.dp <;> rfl)) _ a1
            exact ⟨p, xs', z, nn, rfl, r2.int, hp', by rw [rl'.len]; exact hz, q σ _ own2 (mk (m.set nn d) (xs'.set nn v) (RL.set nn rl' a3))⟩
          · exact q.elim
      · exact mt.elim
    · exact mt.elim
  · exact mt.elim
def yIx (w : EvX) (eb : EvE) : EvX := fun en => bnd (w en) fun p => bnd (eb p.2) fun y => bnd (ofO (oIx p.1 y)) fun z => .ok (z, p.2)
theorem dy_ix (g : Gv G N sc X) {a ix : Expr} {pos : Pos} {w : EvX} {eb : EvE} (ha : PE X a (TYv G W F F1 f1 w)) (hb : PE X ix (TEv G W F1 F2 f2 eb)) (hs : PlainIx ix := by exact fun _ _ => rfl) : PE X (.Subscript a ix pos) (TYv G W F F2 (.sh f1.dp) (yIx w eb)) := by
  refine pe_imp (pe_ix ix_seq ha hb hs) ?_
  rw [g.K]
  rintro σ H Q ⟨c, en, own, ok, m⟩
  refine ⟨c, en, own, ok, m.bnd.imp fun p _ mx v1 H1 own1 ok1 r1 => ?_⟩
  refine ⟨c, p.2, own1, ok1, mx.bnd.imp fun y _ my v2 H2 own2 ok2 s2 b2 r2 => ?_⟩
  obtain ⟨z, ez, q⟩ := my.bnd.ofO
  exact ops_ix c _ H2 p.1 y z v1 v2 _ _ Q (RB.grow r1.b s2 b2) r2.b ez (ok2.kp fun v H3 own3 ok3 s3 b3 r3 => q v H3 own3 ok3 r3)
def eMethY (c : Nat) (fn : List D → Rs D) (i : Nat) (w : EvX) : EvX := fun en => match en[i]? with
  | some (some (.obj c' _)) => if c' = c then bnd (w en) fun p => (match p.2[i]? with
    | some (some (.obj c2 l2)) => if c2 = c then (bnd (fn (.obj c2 l2 :: [p.1])) fun r => match r with
      | .tup [v, d'] => .ok (v, p.2.set i (some d'))
      | _ => .error .stuck) else .error .stuck
    | _ => .error .stuck) else .error .stuck
  | _ => .error .stuck
theorem dy_methY (g : Gd G N sc k W X) {j c0 : Nat} {x m y : Str} {ks : List Str} {fn : List D → Rs D} {w : EvX} {e : Expr} {px apos pos : Pos} {pl : Sem Bool} (C : Ccl G c0 x ks) (M : MetX G j c0 m [.m fs] 2 fn) (i : Nat) (he : PE X e (TYv G W F F1 fv w))
    (hN : N[i]? = some y := by rfl) (hv : visB sc y = true := by rfl) (hx0 : nameB y = true := by rfl) (hf0 : F[i]? = some fl := by rfl) (hf : F1[i]? = some fl := by rfl) (hs : fl.shp = some (.m fs) := by rfl)
    (hj : j ≤ k := by decide) (hm : m ∉ ks := by decide) (ho : fv.nb = true := by rfl) (hst : starEach [e] X.env = [(false, eval e X.env)] := by rfl)
    (ht : eval (.Call (.Attribute (.Name y px) m apos) [e] [] pos) X.env = (do
      let ov ← eval (.Name y px) X.env
      standAt apos.atName
      let (f, first) ← holding [ov] (getMethod ov m pl)
      callWith pos f first (backTo pos (starEach [e] X.env)) (backToKw pos (keywordEach [] X.env))) := by rfl) :
    PE X (.Call (.Attribute (.Name y px) m apos) [e] [] pos) (TYv G W F F1 (.sh false) (eMethY c0 fn i w)) := by
  obtain ⟨fa, fd, ps, hM, hF, hb⟩ := M.ex
  obtain ⟨h1, h2, _⟩ := nameB_d hx0
  refine pe_imp (pe_methSd (pl := pl) (pe_var (pos := px) (i := i) (by rw [g.nN]; exact hN) (visB_vis hv g.sc) h1 h2) (by rw [g.K]; exact C.cls) (by rw [g.K]; exact hM) (g.fnOk hF) (g.room.mono hj) (by rw [g.K]; exact hb) (fun σ => passAt g.tk σ) (pa_cons he pa_nil hst) hst rfl ht) ?_
  rintro σ H Q ⟨c, en, own, ok, mt⟩
  unfold eMethY at mt
  split at mt
  · rename_i c' l he
    split at mt
    · rename_i hc
      subst hc
      obtain ⟨x0, e1, r0, _⟩ := ok.getM hf0 hs he
      obtain ⟨a, dx, flds, r, rfl, eo, q1, q2, q3⟩ := RS_om.mp r0
      rw [C.cf] at q2
      refine ⟨.ref a, e1, a, dx, flds, rfl, q1, lookup_no (fun z => hm (by rw [q2] at z; exact List.take_subset _ _ z)), c, en, own, ok, mt.bnd.imp fun p _ mx v H1 own1 ok1 r1 => ?_⟩
      split at mx
      · rename_i c2 l2 he2
        split at mx
        · rename_i hc2
          obtain ⟨own1', ok1', k1, a1⟩ := RV.arg ok1 r1
          have := spX_of (fs := [fv]) (ds := [p.1]) (vs := [v]) rfl (show nbL [fv] = true by unfold nbL; rw [ho]; rfl) hf hs ok1' e1 he2 ⟨p.1, [], v, [], rfl, rfl, a1, rfl, rfl⟩ mx
          rw [List.append_nil] at this
          exact this
        · exact mx.elim
      · exact mx.elim
    · exact mt.elim
  · exact mt.elim
end
end Pi
noncomputable section
namespace Pi
open PySem PySem.Spec PyProof.Rows L2
def Fr.hid (c : Fr) (H : Hp) (os : List Addr) : Fr := ⟨fun b => if b ∈ os then H b else c.H0 b, fun b => c.A0 b ∧ b ∉ os, fun b => c.S b ∧ b ∉ os, c.L, c.vl⟩
def Own.out (w : Own) (i : Nat) : Own := ⟨fun j => if j = i then [] else w.sl j, w.tm⟩
section
variable {G : Gb} {S : Se} {W : WX} {N : List Str} {sc scope : Scope} {k : Nat} {X : Cx} {F F' F1 F2 F3 F4 Fe Fo : List SF} {f f1 f2 fv : VF} {c : Fr} {en en' : En} {own own0 own1 own2 : Own} {σ σ' : L2.St} {H H' H0 H1 : Hp} {fl : SF} {sh fs : Sh} {b : Bool}
theorem ow_out {i : Nat} {a : Addr} (h : ow (own.out i) a) : ow own a := by
  rcases h with ⟨j, hj⟩ | h
  · unfold Own.out at hj
    dsimp only at hj
    split at hj
    · cases hj
    · exact .inl ⟨j, hj⟩
  · exact .inr h
theorem Av_hid {dp : Bool} {i : Nat} {a : Addr} (h : Av c (ow own) dp a) : Av (c.hid H (own.sl i)) (ow (own.out i)) dp a := by
  have na : a ∉ own.sl i := fun z => h.1 (.inl ⟨i, z⟩)
  refine ⟨fun z => h.1 (ow_out z), fun e => ?_, ?_⟩
  · show (if a ∈ own.sl i then H a else c.H0 a) = none
    rw [if_neg na]; exact h.2.1 e
  · rcases h.2.2 with z | z
    · exact .inl (by show (if a ∈ own.sl i then H a else c.H0 a) = none; rw [if_neg na]; exact z)
    · exact .inr ⟨z, na⟩
theorem Ok.hide (ok : Ok G c F en own σ H) {i : Nat} {a : Addr} (hf : F[i]? = some fl) (hsh : fl.shp = some sh) (hσ : σ[i]? = some (some (.ref a))) : Ok G (c.hid H (own.sl i)) (F.set i (.x a)) en (own.out i) σ H := by
  have hi : i < F.length := (List.getElem?_eq_some_iff.mp hf).1
  have zf : ∀ {j}, j ≠ i → SF.zf F[j]? → SF.zf (F.set i (.x a))[j]? := fun {j} ne h => zf_set (fun e => ne e.symm) h
  refine ⟨by rw [List.length_set]; exact ok.lF, ok.lE, fun b o s e => ?_, fun b s => ok.tr b s.1, fun j1 j2 b h1 h2 => ?_, fun j b h => ?_, fun b h => ?_, fun j b h => ?_, fun j => ?_, fun b o e => ?_⟩
  · change (if b ∈ own.sl i then H b else c.H0 b) = some o at e
    by_cases q : b ∈ own.sl i
    · rw [if_pos q] at e; exact e
    · rw [if_neg q] at e
      exact ok.same b o (fun z => s ⟨z, q⟩) e
  · unfold Own.out at h1 h2
    dsimp only at h1 h2
    split at h1
    · cases h1
    · split at h2
      · cases h2
      · exact ok.dj j1 j2 b h1 h2
  · unfold Own.out at h
    dsimp only at h
    split at h
    · cases h
    · exact ok.dt j b h
  · refine ⟨(ok.nt b h).1, ?_⟩
    show (if b ∈ own.sl i then H b else c.H0 b) = none
    rw [if_neg (fun z => ok.dt i b z h)]
    exact (ok.nt b h).2
  · unfold Own.out at h
    dsimp only at h
    split at h
    · cases h
    · rename_i ne
      have nb : b ∉ own.sl i := fun z => ne (ok.dj j i b h z)
      refine ⟨(ok.nw j b h).1, ?_⟩
      rcases (ok.nw j b h).2 with z | z
      · exact .inl (by show (if b ∈ own.sl i then H b else c.H0 b) = none; rw [if_neg nb]; exact z)
      · exact .inr ⟨zf ne z.1, z.2, nb⟩
  · by_cases e : j = i
    · subst e
      unfold Slt
      rw [List.getElem?_set_self hi]
      exact hσ
    · have s := ok.sl j
      have osj : (own.out i).sl j = own.sl j := by unfold Own.out; dsimp only; rw [if_neg e]
      have up : ∀ dp, Up G.K (Av c (ow own) dp) (Av (c.hid H (own.sl i)) (ow (own.out i)) dp) H H := fun dp => Up.same (Same.refl H) fun a h => Av_hid h
      unfold Slt at s ⊢
      rw [List.getElem?_set_ne (fun z => e z.symm), osj]
      split
      · rename_i dp d hf he; rw [hf, he] at s; obtain ⟨x, h1, h2⟩ := s; exact ⟨x, h1, R.up (up dp) _ h2⟩
      · rename_i dp d hf he; rw [hf, he] at s; obtain ⟨x, h1, h2⟩ := s; exact ⟨x, h1, RO.up h2 (up dp) fun a o m q => q⟩
      · rename_i d hf he; rw [hf, he] at s; obtain ⟨x, h1, h2, h3⟩ := s; exact ⟨x, h1, RO.up h2 (up false) (fun a o m q => q), fun a z => ⟨h3 a z, fun z2 => e (ok.dj j i a z z2)⟩⟩
      · rename_i hf; rw [hf] at s; simpa using s
      · rename_i sh d hf he; rw [hf, he] at s; obtain ⟨x, h1, h2, h3⟩ := s; exact ⟨x, h1, RS.up (up false) _ h2 (fun a o m q => q), h3⟩
      · rename_i sh d hf he; rw [hf, he] at s; obtain ⟨x, h1, h2, h3⟩ := s; exact ⟨x, h1, RS.up (up false) _ h2 (fun a o m q => q), h3⟩
      · trivial
  · obtain ⟨h1, h2⟩ := ok.lk b o e
    exact ⟨h1, h2.imp id fun n z => n (ow_out z)⟩
theorem Up.hidIn {i : Nat} : Up G.K (Av c (ow own) false) (Av (c.hid H (own.sl i)) (ow (own.out i)) false) H H := Up.same (Same.refl H) fun a h => Av_hid h
theorem Ok.unhide (ok : Ok G c F en own σ H) {i : Nat} {a : Addr} {d : D} (hf : F[i]? = some fl) (hsh : fl.shp = some sh) (hd : en[i]? = some (some d)) (hσ : σ[i]? = some (some (.ref a))) (ok2 : Ok G ((c.hid H (own.sl i)).pin (own.out i) H) F' en' own2 σ' H') (hF' : F'[i]? = some (.x a)) :
    Ok G c (F'.set i fl) (en'.set i (some d)) ⟨fun j => if j = i then own.sl i else own2.sl j, own2.tm⟩ σ' H' := by
  have hi' : i < F'.length := (List.getElem?_eq_some_iff.mp hF').1
  have hie : i < en'.length := by rw [ok2.lE, ← ok2.lF]; exact hi'
  have stay : ∀ b, b ∈ own.sl i → ∀ o, H b = some o → H' b = some o := fun b hb o e => ok2.same b o (fun z => z.2 hb) (by show (if b ∈ own.sl i then H b else c.H0 b) = some o; rw [if_pos hb]; exact e)
  have al : ∀ b, b ∈ own.sl i → H b ≠ none := fun b hb => (ok.nw i b hb).1
  have al' : ∀ b, b ∈ own.sl i → H' b ≠ none := fun b hb z => by
    cases e : H b with
    | none => exact al b hb e
    | some o => rw [stay b hb o e] at z; cases z
  have nzf : ¬ SF.zf F[i]? := by rw [hf]; cases fl <;> first | exact id | cases hsh
  have c0 : ∀ b, b ∈ own.sl i → c.H0 b = none := fun b hb => (ok.nw i b hb).2.resolve_right fun z => nzf z.1
  have hid0 : ∀ {b}, (c.hid H (own.sl i)).H0 b = none → b ∉ own.sl i ∧ c.H0 b = none := fun {b} e => by
    change (if b ∈ own.sl i then H b else c.H0 b) = none at e
    by_cases q : b ∈ own.sl i
    · rw [if_pos q] at e; exact absurd e (al b q)
    · rw [if_neg q] at e; exact ⟨q, e⟩
  have apart : ∀ j b, b ∈ own2.sl j → b ∉ own.sl i := fun j b hb => by
    rcases (ok2.nw j b hb).2 with z | z
    · exact (hid0 z).1
    · exact z.2.2
  have apart' : ∀ b, own2.tm b → b ∉ own.sl i := fun b hb => (hid0 (ok2.nt b hb).2).1
  have av : ∀ {dp : Bool} {b : Addr}, Av ((c.hid H (own.sl i)).pin (own.out i) H) (ow own2) dp b → Av c (ow ⟨fun j => if j = i then own.sl i else own2.sl j, own2.tm⟩) dp b := fun {dp b} h => by
    have nb : b ∉ own.sl i := fun z => by
      rcases h.2.2 with e | e
      · exact (hid0 e).1 z
      · exact e.2 z
    refine ⟨fun z => ?_, fun e => (hid0 (h.2.1 e)).2, h.2.2.imp (fun e => (hid0 e).2) fun e => e.1⟩
    rcases z with ⟨j, hj⟩ | z
    · dsimp only at hj
      split at hj
      · exact nb hj
      · exact h.1 (.inl ⟨j, hj⟩)
    · exact h.1 (.inr z)
  have up : ∀ dp, Up G.K (Av ((c.hid H (own.sl i)).pin (own.out i) H) (ow own2) dp) (Av c (ow ⟨fun j => if j = i then own.sl i else own2.sl j, own2.tm⟩) dp) H' H' := fun dp => Up.same (Same.refl H') fun b h => av h
  have upR : ∀ {x : V}, RS G (Av c (ow own) false) H d sh x (own.sl i) → RS G (Av c (ow ⟨fun j => if j = i then own.sl i else own2.sl j, own2.tm⟩) false) H' d sh x (own.sl i) := fun {x} h => by
    have h1 := RS.up (Up.hidIn (i := i)) _ h fun a o m q => q
    have h2 := RS.up (Up.pin (dp := false) ok2) _ h1 fun a o m q => stay a m o q
    exact RS.up (up false) _ h2 fun a o m q => q
  refine ⟨by rw [List.length_set]; exact ok2.lF, by rw [List.length_set]; exact ok2.lE, fun b o s e => ?_, fun b s => ?_, fun j1 j2 b h1 h2 => ?_, fun j b h => ?_, fun b h => ⟨(ok2.nt b h).1, (hid0 (ok2.nt b h).2).2⟩, fun j b h => ?_, fun j => ?_, fun b o e => ?_⟩
  · by_cases q : b ∈ own.sl i
    · rw [c0 b q] at e; cases e
    · exact ok2.same b o (fun z => s z.1) (by show (if b ∈ own.sl i then H b else c.H0 b) = some o; rw [if_neg q]; exact e)
  · by_cases q : b ∈ own.sl i
    · exact al' b q
    · exact ok2.tr b ⟨s, q⟩
  · dsimp only at h1 h2
    split at h1
    · split at h2
      · rename_i a1 a2; rw [a1, a2]
      · exact absurd h1 (apart j2 b h2)
    · split at h2
      · exact absurd h2 (apart j1 b h1)
      · exact ok2.dj j1 j2 b h1 h2
  · dsimp only at h
    split at h
    · exact fun z => apart' b z h
    · exact ok2.dt j b h
  · dsimp only at h
    split at h
    · exact ⟨al' b h, .inl (c0 b h)⟩
    · rename_i ne
      refine ⟨(ok2.nw j b h).1, ?_⟩
      rcases (ok2.nw j b h).2 with z | z
      · exact .inl (hid0 z).2
      · exact .inr ⟨zf_set (fun e => ne e.symm) z.1, z.2.1⟩
  · by_cases e : j = i
    · subst e
      have s := ok.sl j
      have s2 := ok2.sl j
      have hσ' : σ'[j]? = some (some (.ref a)) := by
        unfold Slt at s2
        rw [hF'] at s2
        simpa using s2
      unfold Slt at s ⊢
      rw [hf, hd] at s
      rw [List.getElem?_set_self hi', List.getElem?_set_self hie]
      cases fl <;> first | (cases hsh; done) | skip
      all_goals
        cases hsh
        dsimp only at s ⊢
        rw [if_pos rfl]
      · obtain ⟨x, h1, h2, h3⟩ := s
        rw [hσ] at h1
        cases h1
        exact ⟨_, hσ', upR h2, h3⟩
      · obtain ⟨x, h1, h2, h3, h4⟩ := s
        rw [hσ] at h1
        cases h1
        exact ⟨_, hσ', upR h2, h3, h4⟩
    · have s := ok2.sl j
      unfold Slt at s ⊢
      rw [List.getElem?_set_ne (fun z => e z.symm), List.getElem?_set_ne (fun z => e z.symm)]
      dsimp only
      rw [if_neg e]
      split
      · rename_i dp d hf he; rw [hf, he] at s; obtain ⟨x, h1, h2⟩ := s; exact ⟨x, h1, R.up (up dp) _ h2⟩
      · rename_i dp d hf he; rw [hf, he] at s; obtain ⟨x, h1, h2⟩ := s; exact ⟨x, h1, RO.up h2 (up dp) fun a o m q => q⟩
      · rename_i d hf he; rw [hf, he] at s; obtain ⟨x, h1, h2, h3⟩ := s; exact ⟨x, h1, RO.up h2 (up false) (fun a o m q => q), fun a z => (h3 a z).1⟩
      · rename_i hf; rw [hf] at s; simpa using s
      · rename_i sh d hf he; rw [hf, he] at s; obtain ⟨x, h1, h2, h3⟩ := s; exact ⟨x, h1, RS.up (up false) _ h2 (fun a o m q => q), h3⟩
      · rename_i sh d hf he; rw [hf, he] at s; obtain ⟨x, h1, h2, h3⟩ := s; exact ⟨x, h1, RS.up (up false) _ h2 (fun a o m q => q), h3⟩
      · trivial
  · obtain ⟨h1, h2⟩ := ok.lk b o e
    obtain ⟨h3, h4⟩ := ok2.lk b o (pin_of h1 (h2.imp id fun n z => n (ow_out z)))
    refine ⟨h3, ?_⟩
    by_cases im : Im o
    · exact .inl im
    · refine .inr fun z => ?_
      rcases z with ⟨j, hj⟩ | z
      · dsimp only at hj
        split at hj
        · exact (h2.resolve_left im) (.inl ⟨i, hj⟩)
        · exact (h4.resolve_left im) (.inl ⟨j, hj⟩)
      · exact (h4.resolve_left im) (.inr z)
def sForZF (i c j1 j2 : Nat) (set : En → D → Option En) (b : EvS) : EvS := fun en => match en[i]? with
  | some (some (.obj c' l)) => if c' = c then (match l[j1]?, l[j2]? with
    | some (.lst m1), some (.lst m2) => bnd (noR (evFor set b (zipD m1 m2) en)) fun fl => match fl with
      | .nx en' => .ok (.nx (en'.set i (some (.obj c' l))))
      | _ => .error .stuck
    | _, _ => .error .stuck) else .error .stuck
  | _ => .error .stuck
theorem its_zipH {p p2 : Addr} {ii : Nat} {m1 m2 : List D} {xs ys : List V} (hp : H p = some (.lst xs)) (hp2 : H p2 = some (.lst ys)) (r1 : RL G (Av c (ow own) false) H m1 xs) (r2 : RL G (Av c (ow own) false) H m2 ys) (n1 : ¬ ow (own.out ii) p) (n2 : ¬ ow (own.out ii) p2) :
    ItS G (((c.hid H (own.sl ii)).pin (own.out ii) H).pin (own.out ii) H) (Itz G.K p p2) false (zipD m1 m2) := by
  have at1 : ∀ {F en own' σ H'}, Ok G (((c.hid H (own.sl ii)).pin (own.out ii) H).pin (own.out ii) H) F en own' σ H' → SqL G.K H' p xs ∧ RL G (Av ((c.hid H (own.sl ii)).pin (own.out ii) H) (ow own') false) H' m1 xs := fun {F en own' σ H'} ok' =>
    ⟨SqL.of (ok'.lk p _ (pin_of hp (.inr n1))).1, RL.up (Up.pin (dp := false) ok') _ (RL.up (Up.hidIn (i := ii)) _ r1)⟩
  have at2 : ∀ {F en own' σ H'}, Ok G (((c.hid H (own.sl ii)).pin (own.out ii) H).pin (own.out ii) H) F en own' σ H' → SqL G.K H' p2 ys ∧ RL G (Av ((c.hid H (own.sl ii)).pin (own.out ii) H) (ow own') false) H' m2 ys := fun {F en own' σ H'} ok' =>
    ⟨SqL.of (ok'.lk p2 _ (pin_of hp2 (.inr n2))).1, RL.up (Up.pin (dp := false) ok') _ (RL.up (Up.hidIn (i := ii)) _ r2)⟩
  refine ⟨fun {F en own σ H i d} ok hd => ?_, fun {F en own σ H} ok => ?_⟩
  · obtain ⟨hq, hr⟩ := at1 ok
    obtain ⟨hq2, hr2⟩ := at2 ok
    obtain ⟨x0, y0, ex, ey, rfl⟩ := zipD_at _ _ _ _ hd
    obtain ⟨x, hx, rx⟩ := hr.get ex
    obtain ⟨y, hy, ry⟩ := hr2.get ey
    refine ⟨⟨xs, ys, x, y, hq, hq2, hx, hy⟩, fun v H' z => ?_⟩
    obtain ⟨T, x', y', rfl, hT, rfl, z3, z4⟩ := z
    have q3 := z3 xs hq
    have q4 := z4 ys hq2
    rw [hx] at q3
    rw [hy] at q4
    cases q3
    cases q4
    exact ⟨same_new hT, T, _, rfl, SqT.of upd_same, RL.cons (R.up (Up.same (same_new hT) fun _ h => h) _ rx) (RL.cons (R.up (Up.same (same_new hT) fun _ h => h) _ ry) RL.nil)⟩
  · obtain ⟨hq, hr⟩ := at1 ok
    obtain ⟨hq2, hr2⟩ := at2 ok
    refine ⟨xs, ys, hq, hq2, ?_⟩
    rw [hr.len, hr2.len, zipD_len]
    omega
theorem out_no (ok : Ok G c F en own σ H) {i : Nat} {p : Addr} (h : p ∈ own.sl i) : ¬ ow (own.out i) p := by
  rintro (⟨j, hj⟩ | z)
  · unfold Own.out at hj
    dsimp only at hj
    split at hj
    · cases hj
    · rename_i ne
      exact ne (ok.dj j i p hj h)
  · exact ok.dt i p h z
theorem Ok.fldI {c0 j : Nat} {x : Str} {ks : List Str} {l m : List D} {i : Nat} (ok : Ok G c F en own σ H) (C : Ccl G c0 x ks) (hf : F[i]? = some fl) (hsh : fl.shp = some (.m fs)) (hfj : fs.at j = .o .s) (hen : en[i]? = some (some (.obj c0 l))) (hl : l[j]? = some (.lst m)) :
    ∃ a dx flds p xs, σ[i]? = some (some (.ref a)) ∧ H a = some (.ins (G.ca c0) dx flds) ∧ flds.map (·.1) = ks.take l.length ∧ (flds.map (·.2))[j]? = some (.ref p) ∧ H p = some (.lst xs) ∧ RL G (Av c (ow own) false) H m xs ∧ p ∈ own.sl i := by
  obtain ⟨xv, hσ, hR, nd, hvl⟩ := ok.getM hf hsh hen
  obtain ⟨a, dx, flds, os, rfl, eo, e1, e2, e3⟩ := RS_om.mp hR
  rw [C.cf] at e2
  obtain ⟨y, o1, oj, o2, q1, q2, q3, q4⟩ := RSP_mod e3 hl
  rw [hfj] at q3
  obtain ⟨p, xs, rfl, rfl, hp, rl⟩ := RS_ol.mp q3
  exact ⟨a, dx, flds, p, xs, hσ, e1, e2, q1, hp, rl, by rw [eo, q2]; simp⟩
theorem ds_forZF (g : Gs G N sc k S.W X) {c0 j1 j2 : Nat} {x fn1 fn2 : Str} {ks : List Str} (C : Ccl G c0 x ks) (i : Nat) {y : Str} {px px2 p1 p2 zp0 zp pos tpos : Pos} {elts : List Expr} {kk : Nat} {body : List Stmt} {gg : TG} {set : En → D → Option En} {eb : EvS} {is : List Nat} {F2a Fha : Addr → List SF} (hm : G.mg "zip" = none) (ht : ∀ a, TgO G X (.Tuple elts kk tpos) gg (Fha a) (F2a a) false is set) (hb : ∀ a, PSs X body (TSv G { S with Fc := Fha a } (F2a a) (Fha a) eb)) (hw : ∀ a, wkL (F.set i (.x a)) (Fha a) = true)
    (hN : N[i]? = some y := by rfl) (hv : visB sc y = true := by rfl) (hx : nameB y = true := by rfl) (hf : F[i]? = some fl := by rfl) (hsh : fl.shp = some (.m fs) := by rfl) (hf1 : fs.at j1 = .o .s := by rfl) (hf2 : fs.at j2 = .o .s := by rfl) (hk1 : ks[j1]? = some fn1 := by rfl) (hk2 : ks[j2]? = some fn2 := by rfl)
    (hfx : ∀ a, (Fha a)[i]? = some (.x a) := by intro _; rfl) (ho : ∀ a, (Fha a).set i fl = Fo := by intro _; rfl) (hg : glbB sc "zip" = true := by rfl)
    (hb1 : attributeBase (.Name y px) fn1 X.env (eval (.Name y px) X.env) = eval (.Name y px) X.env := by rfl) (hb2 : attributeBase (.Name y px2) fn2 X.env (eval (.Name y px2) X.env) = eval (.Name y px2) X.env := by rfl)
    (hs1 : starEach [.Attribute (.Name y px) fn1 p1, .Attribute (.Name y px2) fn2 p2] X.env = (false, eval (.Attribute (.Name y px) fn1 p1) X.env) :: starEach [.Attribute (.Name y px2) fn2 p2] X.env := by rfl) (hs2 : starEach [.Attribute (.Name y px2) fn2 p2] X.env = (false, eval (.Attribute (.Name y px2) fn2 p2) X.env) :: starEach [] X.env := by rfl)
    (hpl : (backTo zp (starEach [.Attribute (.Name y px2) fn2 p2] X.env)).any (·.1) = false := by rfl)
    (hs : ∀ x, foldedSetIterable (.Call (.Name "zip" zp0) [.Attribute (.Name y px) fn1 p1, .Attribute (.Name y px2) fn2 p2] [] zp) X.env x = pure x := by intro _; rfl) :
    PS X (.For (.Tuple elts kk tpos) (.Call (.Name "zip" zp0) [.Attribute (.Name y px) fn1 p1, .Attribute (.Name y px2) fn2 p2] [] zp) body [] pos) (TSv G S F Fo (sForZF i c0 j1 j2 set eb)) := by
  obtain ⟨n1, n2, _⟩ := nameB_d hx
  have base := fun a => ps_for (pos := pos) g.g.po g.g.calm (pi_zip (glbB_gl hg g.g.sc) (by rw [g.g.mg]; exact hm) (pa_cons (pe_fld (pos := p1) (f := fn1) (pe_var (pos := px) (i := i) (by rw [g.g.nN]; exact hN) (visB_vis hv g.g.sc) n1 n2) hb1) (pa_cons (pe_fld (pos := p2) (f := fn2) (pe_var (pos := px2) (i := i) (by rw [g.g.nN]; exact hN) (visB_vis hv g.g.sc) n1 n2) hb2) pa_nil hs2) hs1) hs1 hpl) (ht a).pg (hb a) hs
  refine ⟨fun pins s σ H D I hw0 => ?_⟩
  obtain ⟨c, en, own, ok, m⟩ := hw0
  unfold sForZF at m
  split at m
  · rename_i c' l hen
    split at m
    · rename_i hc
      subst hc
      split at m
      · rename_i m1 m2 hl1 hl2
        obtain ⟨fl', efl, haft⟩ := noR_okS m.bnd
        cases fl' <;> first | exact haft.elim | skip
        rename_i en'
        obtain ⟨a, dx, flds, p, xs, hσ, e1, e2, e3, hp, r1, pin1⟩ := ok.fldI C hf hsh hf1 hen hl1
        obtain ⟨a', dx', flds', q, ys, hσ', e1', e2', e3', hq, r2, pin2⟩ := ok.fldI C hf hsh hf2 hen hl2
        have ea : a = a' := sig_inj hσ hσ'
        subst ea
        rw [e1] at e1'
        cases e1'
        have nd2 : (ks.take l.length).Nodup := C.nd.sublist (List.take_sublist _ _)
        have hjl1 : j1 < l.length := (List.getElem?_eq_some_iff.mp hl1).1
        have hjl2 : j2 < l.length := (List.getElem?_eq_some_iff.mp hl2).1
        refine (base a).run pins s σ H D I ⟨.ref a, hσ, a, G.ca c', dx, flds, .ref p, rfl, e1, by rw [g.g.K]; exact C.cls, by rw [g.g.K]; exact C.na fn1 (List.mem_of_getElem? hk1), ?_, .ref a, hσ, a, G.ca c', dx, flds, .ref q, rfl, e1, by rw [g.g.K]; exact C.cls, by rw [g.g.K]; exact C.na fn2 (List.mem_of_getElem? hk2), ?_, p, q, xs, ys, rfl, SqL.of hp, SqL.of hq, ?_⟩
        · rw [lookup_at e2 nd2 (j := j1) (f := fn1) (by rw [List.getElem?_take_of_lt hjl1]; exact hk1)]
          exact e3
        · rw [lookup_at e2 nd2 (j := j2) (f := fn2) (by rw [List.getElem?_take_of_lt hjl2]; exact hk2)]
          exact e3'
        · have okh := (ok.hide hf hsh hσ).pin
          rw [g.g.K]
          refine for_R okh (its_zipH (ii := i) hp hq r1 r2 (out_no ok pin1) (out_no ok pin2)) (ht a) (hw a) ?_
          rw [efl]
          show ∀ σ' H' own', Ok G _ (Fha a) en' own' σ' H' → D.nx σ' H'
          intro σ' H' own' ok2
          have := ok.unhide hf hsh hen hσ ok2 (hfx a)
          rw [ho a] at this
          exact haft σ' H' _ this
      · exact m.elim
    · exact m.elim
  · exact m.elim
end
end Pi
end
namespace Pi
open PySem PySem.Spec PyProof.Rows L2
section
variable {G : Gb} {S : Se} {W : WX} {N : List Str} {sc scope : Scope} {k : Nat} {X : Cx} {F F' F1 F2 F3 F4 : List SF} {f f1 f2 : VF} {c : Fr} {en : En} {own own0 own1 : Own} {σ : L2.St} {H H' H0 H1 : Hp} {vs : List Nat}
theorem new_core {ev : EvE} {t : TE} (h : ∀ σ H Q, TEv G W (deepF F) F1 (.uq true) ev σ H Q → t σ H Q) : ∀ σ H Q, TEv G W F F (.uq true) ev σ H Q → t σ H Q := by
  rintro σ H Q ⟨c, en, own, ok, m⟩
  refine h σ H Q ⟨Fr.new H fun _ => True, en, Own.new, deep_ok ok, ?_⟩
  cases q : ev en with
  | error er =>
    rw [q] at m
    cases er with
    | raise k => exact fun H' s => m H' fun b o n e => s b o (fun z => z) (ok.same b o n e)
    | stuck => exact m.elim
  | ok d =>
    rw [q] at m
    intro v H1 own1 ok1 s1 b1 r1
    obtain ⟨os, r0, t0⟩ := r1
    have new : ∀ a, a ∈ os → H a = none := fun a ha => (ok1.nt a (t0 a ha)).2
    have okr := ok.resL s1 (os := os) new r0.at
    refine m v H1 _ okr s1 (sub_resL new) ⟨os, RO.up r0 (Up.same (Same.refl H1) fun a z => ?_) (fun _ _ _ z => z), fun a ha => .inr ha⟩
    have hn : H a = none := z.2.1 rfl
    refine ⟨fun y => ?_, fun _ => ok.free hn, .inl (ok.free hn)⟩
    rcases y with y | y | y
    · exact ok.trk (.inl y) hn
    · exact ok.trk (.inr y) hn
    · exact z.1 (.inr (t0 a y))
theorem ds_asLcN (g : Gs G N sc k S.W X) (i : Nat) (own : List (Str × Nat)) {y : Str} {py spos : Pos} {elt tg iter : Expr} {ifs : List Expr} {pos : Pos} {gg : TG} {dpi : Bool} {is : List Nat} {evI : EvI} {set : En → D → Option En} {t : En → Rs Bool} {ee : EvE} (hi : PI X tg iter (TIv G S.W (deepF F) F1 dpi evI)) (ok : BlkOk N sc scope own)
    (hg : ∀ X', Gd G N (rl sc scope) k wF X' → (∀ x, scope.names.lookup x = some .cell → X'.fn x = true) → TgO G X' tg gg (blkF (own.map (·.2)) F1) F2 false is set) (ht : ∀ X', Gd G N (rl sc scope) k wF X' → PTs X' ifs (TTv G wF F2 F3 t)) (he : ∀ X', Gd G N (rl sc scope) k wF X' → PE X' elt (TEv G wF F3 F4 (.uq true) ee))
    (his : ∀ i, i ∈ is → i ∈ own.map (·.2) := by decide) (hN : N[i]? = some y := by rfl) (hy : plainLocB sc y = true := by rfl) (hz : zB F i = true := by rfl)
    (hln : (py.line == pos.line) = true := by rfl) (hnn : (scope.names.any fun (n, k) => n == y && (k == .local || k == .cell)) = false := by rfl) (hs : ∀ x, foldedSetIterable iter X.env x = pure x := by intro _; rfl) :
    PS X (.Assign [.Name y py] (.ListComp elt [⟨tg, iter, ifs, 0⟩] scope pos) spos) (TSv G S F (F.set i (.o true)) (sAs i (eLc (own.map (·.2)) evI set t ee))) :=
  ps_imp (ps_setLc (i := i) g.g.calm (by rw [g.g.nN]; exact g.g.nd) (by rw [g.g.nN]; exact hN) (plainLocB_loc hy g.g.sc) (sw_lc_yes g hy hln hnn) hi (by rw [g.g.nN, g.g.sc]; exact ok) (fun s H C cl fp => (hg _ g.g.blk blkFn).pg) (fun s H C cl fp => ht _ g.g.blk) (fun s H C cl fp => he _ g.g.blk) hs)
    (as_core (f := .uq true) hz rfl (new_core (lc_core (f := .uq true) (fun _ _ _ z => z) (hg _ (g.g.blk (s := X.s_0) (H := X.H_0) (C := 0) (cl := []) (fp := [])) blkFn) (fun _ _ _ z => z) (fun _ _ _ z => z) his rfl)))
end
end Pi
noncomputable section
namespace Pi
open PySem PySem.Spec PyProof.Rows L2
abbrev EvL : Type := En → Rs (Option D × En)
section
variable {G : Gb} {S : Se} {W : WX} {N : List Str} {sc scope : Scope} {k : Nat} {X : Cx} {F F' F1 F2 F3 F4 Fn Fe Fo : List SF} {f f1 f2 : VF} {c : Fr} {en : En} {own own0 own1 : Own} {σ : L2.St} {H H' H0 H1 : Hp} {vs : List Nat} {b : Bool}
def TLv (G : Gb) (W : WX) (F Fn Fe : List SF) (st : EvL) : TS := fun D σ H => ∃ (c : Fr) (en : En) (own : Own), Ok G c F en own σ H ∧
  MtS G W c (st en) fun p => match p.1 with
    | some d => ∀ v σ' H' own', Ok G c Fe p.2 own' σ' H' → R G (Av c (ow own') false) H' d v → D.rt v H'
    | none => ∀ σ' H' own', Ok G c Fn p.2 own' σ' H' → D.nx σ' H'
def lEnd : EvL := fun en => .ok (none, en)
def lB (s : EvS) (t : EvL) : EvL := fun en => bnd (s en) fun fl => match fl with
  | .nx en' => t en'
  | _ => .error .stuck
def lIf (t : En → Rs Bool) (a : EvX) (r : EvL) : EvL := fun en => bnd (t en) fun x => if x = true then bnd (a en) fun p => .ok (some p.1, p.2) else r en
theorem dl_end (hw : wkL F Fn = true := by rfl) : PSs X [] (TLv G W F Fn Fe lEnd) := by
  refine pss_imp pss_nil ?_
  rintro D σ H ⟨c, en, own, ok, m⟩
  obtain ⟨own2, ok2, _⟩ := ok.weak hw
  exact m σ H own2 ok2
theorem dl_cons {st : Stmt} {rest : List Stmt} {s : EvS} {t : EvL} (h1 : PS X st (TSv G ⟨false, W, []⟩ F F1 s)) (h2 : PSs X rest (TLv G W F1 Fn Fe t)) : PSs X (st :: rest) (TLv G W F Fn Fe (lB s t)) := by
  refine pss_imp (pss_cons h1 h2) ?_
  rintro D σ H ⟨c, en, own, ok, m⟩
  refine ⟨c, en, own, ok, m.bnd.imp fun fl _ mf => ?_⟩
  cases fl with
  | nx en' => exact fun σ' H' own' ok' => ⟨c, en', own', ok', mf⟩
  | rt d => exact mf.elim
  | ct en' => exact mf.elim
theorem dl_if {t : Expr} {a rest : List Stmt} {pos : Pos} {tt : En → Rs Bool} {ea : EvX} {er : EvL} (hc : PT X t (TTv G W F F1 tt)) (ha : PSs X a (TBv G W false F1 Fe ea)) (hb : PSs X rest (TLv G W F1 Fn Fe er)) : PSs X (.If t a [] pos :: rest) (TLv G W F Fn Fe (lIf tt ea er)) := by
  refine pss_imp (pss_cons (ps_if hc ha pss_nil) hb) ?_
  rintro D σ H ⟨c, en, own, ok, m⟩
  refine ⟨c, en, own, ok, m.bnd.e.imp fun x _ mx H1 own1 ok1 s1 b1 => ?_⟩
  cases x with
  | true =>
    rw [if_pos rfl] at mx ⊢
    exact ⟨c, en, own1, ok1, mx.bnd.imp fun p _ q => ⟨q, fun z => by cases z⟩⟩
  | false =>
    rw [if_neg (by decide)] at mx ⊢
    exact ⟨c, en, own1, ok1, mx⟩
def lwK (r : Rs (Option D × En)) (k : En → Option (Rs (D × En))) : Option (Rs (D × En)) := match r with
  | .error e => some (.error e)
  | .ok (some d, en') => some (.ok (d, en'))
  | .ok (none, en') => k en'
def lwN (b : EvL) : Nat → En → Option (Rs (D × En))
  | 0, _ => none
  | n + 1, en => lwK (b en) (lwN b n)
open Classical in
def xLw (b : EvL) : EvX := fun en => if h : ∃ n r, lwN b n en = some r then Classical.choose (Classical.choose_spec h) else .error .stuck
theorem lwN_mono {b : EvL} : ∀ {n m : Nat} {en : En} {r : Rs (D × En)}, n ≤ m → lwN b n en = some r → lwN b m en = some r
  | 0, _, _, _, _, h => by cases h
  | n + 1, 0, _, _, h, _ => by omega
  | n + 1, m + 1, en, r, hm, h => by
    unfold lwN at h ⊢
    revert h
    cases b en with
    | error e => exact id
    | ok p =>
      obtain ⟨o, en'⟩ := p
      cases o with
      | some d => exact id
      | none => exact lwN_mono (Nat.le_of_succ_le_succ hm)
theorem xLw_of {b : EvL} {n : Nat} {en : En} {r : Rs (D × En)} (h : lwN b n en = some r) : xLw b en = r := by
  have hx : ∃ n r, lwN b n en = some r := ⟨n, r, h⟩
  unfold xLw
  rw [dif_pos hx]
  have h2 := Classical.choose_spec (Classical.choose_spec hx)
  have h3 := lwN_mono (Nat.le_max_left n (Classical.choose hx)) h
  have h4 := lwN_mono (Nat.le_max_right n (Classical.choose hx)) h2
  rw [h3] at h4
  exact (Option.some.inj h4).symm
theorem xLw_some {b : EvL} {en : En} (h : xLw b en ≠ .error .stuck) : ∃ n r, lwN b n en = some r := by
  by_cases hx : ∃ n r, lwN b n en = some r
  · exact hx
  · exact absurd (by unfold xLw; rw [dif_neg hx]) h
theorem xLw_rt {b : EvL} {en en' : En} {d : D} (h : b en = .ok (some d, en')) : xLw b en = .ok (d, en') := xLw_of (n := 1) (by show lwK (b en) _ = _; rw [h]; rfl)
theorem xLw_nx {b : EvL} {en en' : En} {r : D × En} (h : b en = .ok (none, en')) (q : xLw b en' = .ok r) : xLw b en = .ok r := by
  obtain ⟨n, r', hn⟩ := xLw_some (b := b) (en := en') (by rw [q]; intro z; cases z)
  have e := xLw_of hn
  rw [q] at e
  refine xLw_of (n := n + 1) ?_
  show lwK (b en) (lwN b n) = _
  rw [h, e]
  exact hn
theorem db_while (g : Gs G N sc k W X) {bd : List Stmt} {st : EvL} {j : Nat} {p pos : Pos} (hb : PSs X bd (TLv G W F F Fe st)) : PSs X [.While (.Constant (.bool true) j p) bd [] pos] (TBv G W b F Fe (xLw st)) := by
  refine pss_imp (pss_one (ps_while g.g.po (dt_val (G := G) (W := W) (F := F) (F1 := F) (de_bl true)) hb)) ?_
  rintro D σ H ⟨c, en, own, ok, m⟩
  have hns : xLw st en ≠ .error .stuck := fun z => by rw [z] at m; exact m
  obtain ⟨n0, r0, h0⟩ := xLw_some hns
  rw [xLw_of h0] at m
  refine ⟨fun n σ H => ∃ en own r, Ok G c F en own σ H ∧ lwN st n en = some r ∧ MtS G W c r fun p => (∀ v σ' H' own', Ok G c Fe p.2 own' σ' H' → R G (Av c (ow own') false) H' p.1 v → D.rt v H') ∧ (b = true → p.1 = .non → ∀ σ' H' own', Ok G c Fe p.2 own' σ' H' → D.nx σ' H'), ⟨n0, en, own, r0, ok, h0, m⟩, ?_⟩
  rintro n σ H ⟨en, own, r, ok, h, m⟩
  cases n with
  | zero => cases h
  | succ n =>
    unfold lwN at h
    refine ⟨c, en, own, ok, ?_⟩
    show ∀ H1 own1, _
    intro H1 own1 ok1 s1 b1
    refine ⟨fun σ' H' => ∃ en own r, Ok G c F en own σ' H' ∧ lwN st n en = some r ∧ MtS G W c r fun p => (∀ v σ' H' own', Ok G c Fe p.2 own' σ' H' → R G (Av c (ow own') false) H' p.1 v → D.rt v H') ∧ (b = true → p.1 = .non → ∀ σ' H' own', Ok G c Fe p.2 own' σ' H' → D.nx σ' H'), fun σ' H' q => ⟨n, Nat.lt_succ_self n, q⟩, c, en, own1, ok1, ?_⟩
    cases he : st en with
    | error e =>
      rw [he] at h
      cases h
      cases e with
      | raise e => exact m
      | stuck => exact m
    | ok p =>
      rw [he] at h
      obtain ⟨o, en'⟩ := p
      cases o with
      | some d =>
        cases h
        exact fun v σ' H' own' ok' hr => m.1 v σ' H' own' ok' hr
      | none => exact fun σ' H' own' ok' => ⟨en', own', r, ok', h, m⟩
end
end Pi
end
namespace Pi
open PySem PySem.Spec PyProof.Rows L2
section
variable {G : Gb} {S : Se} {W : WX} {N : List Str} {sc scope : Scope} {k : Nat} {X : Cx} {F F1 F2 F3 F4 Fh : List SF} {Fo : List SF} {f f1 f2 : VF} {c : Fr} {en : En} {own own0 : Own} {σ : L2.St} {H H' H0 H1 : Hp}
end
end Pi
noncomputable section
namespace Pi
open PySem PySem.Spec PyProof.Rows L2
section
variable {G : Gb} {S : Se} {W : WX} {N : List Str} {sc scope : Scope} {k : Nat} {X : Cx} {F F' F1 F2 F3 F4 Fe Fo Fh : List SF} {f f1 f2 fv : VF} {c : Fr} {en en' : En} {own own0 own1 own2 : Own} {σ σ' : L2.St} {H H' H0 H1 : Hp} {fl : SF} {sh fs : Sh} {b : Bool}
theorem Ok.re {i : Nat} {f g : SF} (ok : Ok G c F en own σ H) (hf : F[i]? = some f) (nf : ¬ SF.zf (some f)) (ng : ¬ SF.zf (some g)) (hs : Slt G c (F.set i g) en own σ H i) : Ok G c (F.set i g) en own σ H := by
  have hi : i < F.length := (List.getElem?_eq_some_iff.mp hf).1
  refine { lF := by rw [List.length_set]; exact ok.lF, lE := ok.lE, same := ok.same, tr := ok.tr, dj := ok.dj, dt := ok.dt, nt := ok.nt, nw := fun j a h => ?_, sl := fun j => ?_, lk := ok.lk }
  · obtain ⟨q1, q2⟩ := ok.nw j a h
    refine ⟨q1, q2.imp id fun ⟨q3, q4⟩ => ⟨?_, q4⟩⟩
    have ne : i ≠ j := fun e => by rw [← e, hf] at q3; exact nf q3
    exact zf_set ne q3
  · by_cases e : i = j
    · subst e; exact hs
    · have h := ok.sl j
      unfold Slt at h ⊢
      rw [List.getElem?_set_ne e]
      exact h
theorem Ok.toS {i : Nat} {dp : Bool} {m : List D} (ok : Ok G c F en own σ H) (hf : F[i]? = some (.o dp)) (hd : en[i]? = some (some (.lst m))) : Ok G c (F.set i (.dt (.o .s))) en own σ H := by
  have hi : i < F.length := (List.getElem?_eq_some_iff.mp hf).1
  refine ok.re hf id id ?_
  have s := ok.sl i
  unfold Slt at s ⊢
  rw [hf, hd] at s
  rw [List.getElem?_set_self hi, hd]
  obtain ⟨x, h1, a, xs, rfl, e2, e3, e4⟩ := s
  exact ⟨.ref a, h1, RS_ol.mpr ⟨a, xs, rfl, e2, e3, RL.up (Up.same (Same.refl H) fun b z => z.undp) _ e4⟩, by rw [e2]; exact List.nodup_cons.mpr ⟨List.not_mem_nil, List.nodup_nil⟩⟩
end
end Pi
end
namespace Pi
open PySem PySem.Spec PyProof.Rows L2
section
open PySem.SeqAt AutoSeq1 MeetsSeq MeetsSeq2 MeetsSeq3 SeqRoads2
variable {prog : Program} {w : World}
end
section
variable {N : List Str} {sc : Scope} {X : Cx} {G : Gb}
end
end Pi
namespace Pi
open PySem PySem.Spec PyProof.Rows L2
section
variable {N : List Str} {sc : Scope} {X : Cx} {G : Gb} {A A' : Addr → Prop} {H : Hp}
end
end Pi
noncomputable section
namespace Pi
open PySem PySem.Spec PyProof.Rows L2
def RP (G : Gb) (A : Addr → Prop) (H : Hp) : Option Sh → D → V → List Addr → Prop
  | none, d, v, os => RO G A H d v os
  | some sh, d, v, os => RS G A H d sh v os ∧ os.Nodup
def RRetT (G : Gb) (o : Option Sh) (H H' : Hp) (d : D) (v : V) : Prop := ∃ t x0 xs d0 ds os, d = .tup (d0 :: ds) ∧ v = .ref t ∧ SqT G.K H' t (x0 :: xs) ∧ RP G (fun a => H a = none ∧ a ∉ os) H' o d0 x0 os ∧ (∀ a, a ∈ os → H a = none) ∧ RL G (fun a => H a = none ∧ a ∉ os) H' ds xs
def spT (G : Gb) (o : Option Sh) (n : Nat) (fn : List D → Rs D) : Sp := fun vs H Q E => vs.length = n ∧ ∃ (ds : List D) (A0 : Addr → Prop), RL G A0 H ds vs ∧
  match fn ds with
  | .ok d => ∀ v H', Same H H' → RRetT G o H H' d v → Q v H'
  | .error (.raise e) => ∀ H', Same H H' → E (.ref (G.xa e)) none H'
  | .error .stuck => False
structure CalT (G : Gb) (j : Nat) (x : Str) (o : Option Sh) (n : Nat) (fn : List D → Rs D) : Prop where
  ex : ∃ (f : Addr) (fd : FuncData) (ps : List Str), FnOk G.P G.w G.K G.mg G.base (L2.CX G.P G.w) j f fd ps (spT G o n fn) ∧ G.mg x = some (.ref f) ∧ PySem.W.keepIn G.K (.ref f) = true ∧ Binds G.K fd ps []
def TRv (G : Gb) (W : WX) (o : Option Sh) (F : List SF) (t : EvE) : TS := fun D σ H => ∃ (c : Fr) (en : En) (own : Own), Ok G c F en own σ H ∧ MtS G W c (t en) fun d => ∀ v H', c.Sm H' → c.Lk H' → RRetT G o c.H0 H' d v → D.rt v H'
def runT (m : Nat) (t : EvE) : List D → Rs D := fun ds => t (ds.map some ++ List.replicate m none)
def rCons (s : EvS) (t : EvE) : EvE := fun en => bnd (s en) fun fl => match fl with
  | .nx en' => t en'
  | _ => .error .stuck
section
variable {G : Gb} {S : Se} {W : WX} {N : List Str} {sc scope : Scope} {k : Nat} {X : Cx} {F F1 F2 F3 Fe Fo : List SF} {f f1 f2 : VF} {c : Fr} {en : En} {own own0 own1 : Own} {σ : L2.St} {H H' H0 H1 : Hp} {A A' : Addr → Prop} {o : Option Sh}
theorem dr_cons {st : Stmt} {rest : List Stmt} {s : EvS} {t : EvE} (h1 : PS X st (TSv G ⟨false, W, []⟩ F F1 s)) (h2 : PSs X rest (TRv G W o F1 t)) : PSs X (st :: rest) (TRv G W o F (rCons s t)) := by
  refine pss_imp (pss_cons h1 h2) ?_
  rintro D σ H ⟨c, en, own, ok, m⟩
  refine ⟨c, en, own, ok, m.bnd.imp fun fl _ mf => ?_⟩
  cases fl with
  | nx en' => exact fun σ' H' own' ok' => ⟨c, en', own', ok', mf⟩
  | rt d => exact mf.elim
  | ct en' => exact mf.elim
theorem fn_calT {x qual : Str} {params : Arguments} {body : List Stmt} {sc : Scope} {kws : List (Str × V)} {f : Addr} {fd : FuncData} {N ps : List Str} {k n m : Nat} {t : EvE} (F : FunD G.K x qual params body sc [] kws f fd) (hg : G.mg x = some (.ref f)) (S : FnScope N ps sc) (hp : ps.length = n) (hN : N.length = n + m)
    (hbd : Binds G.K fd ps []) (hb : ∀ (X : Cx) (W : WX), Gs G N sc k W X → PSs X body (TRv G W o (F0 n m) t)) : CalT G (k + 1) x o n (runT m t) := by
  refine ⟨f, fd, ps, ?_, hg, F.kp, hbd⟩
  refine F.ok S (fun vs H Q E h => by rw [hp]; exact h.1) fun cdv A outer s H vs Q E hr h => ⟨_, hb _ _ (gs_of S.nd S.kind hr), ?_⟩
  obtain ⟨hv, ds, A0, r, q⟩ := h
  refine ⟨Fr.new H A0, _, Own.new, start_ok hN hv r, ?_⟩
  unfold runT at q
  revert q
  cases e : t (ds.map some ++ List.replicate m none) with
  | ok d =>
    intro q v H' sm _ rr
    exact q v H' (fun b o z => sm b o id z) rr
  | error er =>
    cases er with
    | stuck => exact fun q => q.elim
    | raise e => exact fun q σ' H' sm => q H' fun b o z => sm b o id z
def TNv (G : Gb) (W : WX) (o : Option Sh) (F F' : List SF) (ev : EvE) : TE := fun σ H Q => ∃ (c : Fr) (en : En) (own : Own), Ok G c F en own σ H ∧
  Mt G W c σ (ev en) fun d => ∀ v H1 H2 own1, Ok G c F' en own1 σ H1 → Same H1 H2 → RRetT G o H1 H2 d v → Q v H2
theorem call_coreT {n : Nat} {fn : List D → Rs D} {fs : List VF} {ea : En → Rs (List D)} (hn : fs.length = n) :
    ∀ σ H Q, TNv G W o F F1 (eCall fn ea) σ H Q → tCallSD (spT G o n fn) [] (WE W) (TAv G W F F1 fs ea) σ H Q := by
  rintro σ H Q ⟨c, en, own, ok, m⟩
  refine ⟨c, en, own, ok, m.bnd.imp fun ds _ mx vs H1 own1 ok1 s1 b1 r1 => ?_⟩
  show spT G o n fn (vs ++ []) H1 Q (WE W σ)
  rw [List.append_nil]
  refine ⟨by rw [r1.len.2, hn], ds, fun _ => True, r1.any, ?_⟩
  cases e : fn ds with
  | ok d =>
    rw [e] at mx
    exact fun v H2 s2 r2 => mx v H1 H2 own1 ok1 s2 r2
  | error x =>
    rw [e] at mx
    cases x with
    | stuck => exact mx.elim
    | raise x => exact fun H2 s2 => mx H2 fun b o nb e => s2 _ _ (ok1.same b o nb e)
theorem dn_call (g : Gd G N sc k W X) {j : Nat} {x : Str} {n : Nat} {fn : List D → Rs D} (C : CalT G j x o n fn) {p pos : Pos} {e : Expr} {es : List Expr} {fs : List VF} {ea : En → Rs (List D)} (ha : PA X (e :: es) (TAv G W F F1 fs ea))
    (hj : j ≤ k := by decide) (hn : fs.length = n := by rfl) (hx : glbB sc x = true := by rfl) (hnm : nameB x = true := by rfl)
    (he : starEach (e :: es) X.env = (false, eval e X.env) :: starEach es X.env := by rfl) (hpl : (backTo pos (starEach es X.env)).any (·.1) = false := by rfl) : PE X (.Call (.Name x p) (e :: es) [] pos) (TNv G W o F F1 (eCall fn ea)) := by
  obtain ⟨f, fd, ps, hF, hm, hk, hb⟩ := C.ex
  exact pe_imp (pe_callSD (dvs := []) (ds := []) (g.fnOk hF) (g.room.mono hj) (glbB_gl hx g.sc) (by rw [g.mg]; exact hm) (by rw [g.K]; exact hk) (by rw [g.K]; exact hb) .nil (fun σ => passAt g.tk σ) ha (nameB_d hnm).1 he hpl) (call_coreT hn)
end
end Pi
end
noncomputable section
namespace Pi
open PySem PySem.Spec PyProof.Rows L2
section
variable {G : Gb} {W : WX} {N : List Str} {sc : Scope} {k : Nat} {X : Cx} {F F' F1 F2 : List SF} {f f1 f2 : VF} {c : Fr} {en : En} {own own1 own2 : Own} {σ : L2.St} {H H' H1 H2 : Hp} {A A' : Addr → Prop} {p : Addr} {o o2 : HO}
theorem Up.comp {K : PySem.W.Frag} {B : Addr → Prop} (u : Up K A B H H1) (v : Up K B A' H1 H2) : Up K A A' H H2 := by
  obtain ⟨u1, u2, u3, u4, u5⟩ := u
  obtain ⟨v1, v2, v3, v4, v5⟩ := v
  exact ⟨fun a xs h r => v1 a xs (u1 a xs h r).1 (u1 a xs h r).2, fun a xs h r => v2 a xs (u2 a xs h r).1 (u2 a xs h r).2, fun a C dx fs h r => v3 a C dx fs (u3 a C dx fs h r).1 (u3 a C dx fs h r).2, fun a xs r => v4 a xs (u4 a xs r), fun a xs r => v5 a xs (u5 a xs r)⟩
theorem Up.ex {K : PySem.W.Frag} (s : Same H H') (m : ∀ a, A a → H a ≠ none → A' a) : Up K A A' H H' :=
  ⟨fun a _ h r => ⟨m a h (by rw [r]; simp), s _ _ r⟩, fun a _ h r => ⟨m a h (by rcases r with r | ⟨q, r⟩ <;> (rw [r]; simp)), rdS r s⟩, fun a _ _ _ h r => ⟨m a h (by rw [r]; simp), s _ _ r⟩, fun _ _ r => rdS r s, fun _ _ r => sfS r s⟩
end
end Pi
end
noncomputable section
namespace Pi
open PySem PySem.Spec PyProof.Rows L2
section
variable {G : Gb} {S : Se} {W : WX} {N : List Str} {sc scope : Scope} {k : Nat} {X : Cx} {F F' F1 F2 F3 F4 Fe Fo : List SF} {f f1 f2 fv : VF} {c : Fr} {en : En} {own own0 own1 : Own} {σ : L2.St} {H H' H0 H1 : Hp} {fl : SF} {sh fs : Sh} {b : Bool}
end
end Pi
end
noncomputable section
namespace Pi
open PySem PySem.Spec PyProof.Rows L2
def Fr.lnd (c : Fr) (H : Hp) (os : List Addr) (j : Nat) (a : Addr) : Fr := { c.hid H os with vl := fun q => if q = j then some (.ref a) else c.vl q }
def Own.lnd (w : Own) (i j : Nat) (a : Addr) : Own := ⟨fun q => if q = i then [] else if q = j then [a] else w.sl q, w.tm⟩
section
variable {G : Gb} {S : Se} {W : WX} {N : List Str} {sc scope : Scope} {k : Nat} {X : Cx} {F F' F1 F2 F3 Fh Fe Fo : List SF} {f f1 f2 : VF} {c : Fr} {en en' : En} {own own0 own1 own2 : Own} {σ σ' : L2.St} {H H' H0 H1 : Hp} {A A' : Addr → Prop} {sh e : Sh}
def Bk (G : Gb) (A : Addr → Prop) (H : Hp) (m : List D) (p : Nat) (xs : List V) (os o1 o2 : List Addr) (a : Addr) : Prop := ∀ (A' : Addr → Prop) (H' : Hp) (r' : List D) (ys' : List V), (∀ d x o, (∀ b, b ∈ o → b ∈ o1 ++ o2) → RS G A H d (.o .s) x o → RS G A' H' d (.o .s) x o) → H' a = some (.lst ys') → RL G A' H' r' ys' → RSP G A' H' (m.set p (.lst r')) (.rep (.o .s)) xs os
theorem RSP.row : ∀ (m : List D) {xs : List V} {os : List Addr} {p : Nat} {r : List D}, RSP G A H m (.rep (.o .s)) xs os → m[p]? = some (.lst r) → ∃ a ys o1 o2, os = o1 ++ (a :: o2) ∧ xs[p]? = some (.ref a) ∧ H a = some (.lst ys) ∧ RL G A H r ys ∧
    Bk G A H m p xs os o1 o2 a
  | [], xs, os, p, r, h, e => by simp at e
  | d :: m, xs, os, 0, r, h, e => by
    obtain ⟨x, rx, oa, ob, rfl, rfl, h1, h2⟩ := h
    obtain rfl : d = .lst r := by simpa using e
    obtain ⟨a, ys, rfl, rfl, e3, e4⟩ := RS_ol.mp h1
    refine ⟨a, ys, [], ob, rfl, rfl, e3, e4, fun A' H' r' ys' up ha hr => ?_⟩
    have rest : ∀ (m : List D) (xs : List V) (os : List Addr), (∀ b, b ∈ os → b ∈ ob) → RSP G A H m (.rep (.o .s)) xs os → RSP G A' H' m (.rep (.o .s)) xs os := fun m => by
      induction m with
      | nil => intro xs os _ h; exact h
      | cons d m ih =>
        intro xs os hs h
        obtain ⟨x, rx, o1, o2, rfl, rfl, k1, k2⟩ := h
        exact ⟨x, rx, o1, o2, rfl, rfl, up _ _ _ (fun b hb => hs b (List.mem_append_left _ hb)) k1, ih rx o2 (fun b hb => hs b (List.mem_append_right _ hb)) k2⟩
    exact ⟨.ref a, rx, [a], ob, rfl, rfl, RS_ol.mpr ⟨a, ys', rfl, rfl, ha, hr⟩, rest m rx ob (fun b hb => hb) h2⟩
  | d :: m, xs, os, p + 1, r, h, e => by
    obtain ⟨x, rx, oa, ob, rfl, rfl, h1, h2⟩ := h
    obtain ⟨a, ys, o1, o2, rfl, hx, e3, e4, back⟩ := RSP.row m h2 (by simpa using e)
    refine ⟨a, ys, oa ++ o1, o2, by simp, by simpa using hx, e3, e4, fun A' H' r' ys' up ha hr => ?_⟩
    exact ⟨x, rx, oa, o1 ++ a :: o2, rfl, rfl, up _ _ _ (fun b hb => by simp [hb]) h1, back A' H' r' ys' (fun d x o hs => up d x o fun b hb => by have := hs b hb; simp at this ⊢; rcases this with z | z <;> simp [z]) ha hr⟩
theorem RS_oo {m : List D} {v : V} {os : List Addr} : RS G A H (.lst m) (.o (.o .s)) v os ↔ ∃ l xs r, v = .ref l ∧ os = l :: r ∧ H l = some (.lst xs) ∧ RSP G A H m (.rep (.o .s)) xs r := by
  unfold RS
  exact Iff.rfl
theorem Av_lnd {dp : Bool} {os : List Addr} {i j : Nat} {a b : Addr} (hos : ∀ b, b ∈ os → b ∈ own.sl i) (ha : a ∈ own.sl i) (h : Av c (ow own) dp b) : Av (c.lnd H os j a) (ow (own.lnd i j a)) dp b := by
  have nb : b ∉ own.sl i := fun z => h.1 (.inl ⟨i, z⟩)
  have no : b ∉ os := fun z => nb (hos b z)
  refine ⟨fun z => ?_, fun e => ?_, ?_⟩
  · rcases z with ⟨q, hq⟩ | z
    · unfold Own.lnd at hq
      dsimp only at hq
      split at hq
      · cases hq
      · split at hq
        · exact nb (by rw [show b = a by simpa using hq]; exact ha)
        · exact h.1 (.inl ⟨q, hq⟩)
    · exact h.1 (.inr z)
  · show (if b ∈ os then H b else c.H0 b) = none
    rw [if_neg no]; exact h.2.1 e
  · rcases h.2.2 with z | z
    · exact .inl (by show (if b ∈ os then H b else c.H0 b) = none; rw [if_neg no]; exact z)
    · exact .inr ⟨z, no⟩
theorem Ok.lend {i j l : Nat} {m : List D} {p : Nat} {r : List D} (ok : Ok G c F en own σ H) (hf : F[i]? = some (.dt (.o (.o .s)))) (hd : en[i]? = some (some (.lst m))) (hσ : σ[i]? = some (some (.ref l))) (hp : m[p]? = some (.lst r)) (ij : i ≠ j) (hj : F[j]? = some .n) :
    ∃ a xs o1 o2, own.sl i = l :: (o1 ++ (a :: o2)) ∧ H l = some (.lst xs) ∧ xs[p]? = some (.ref a) ∧ xs.length = m.length ∧ Bk G (Av c (ow own) false) H m p xs (o1 ++ (a :: o2)) o1 o2 a ∧ Ok G (c.lnd H (l :: (o1 ++ o2)) j a) ((F.set i (.x l)).set j (.ma (.o .s))) (en.set j (some (.lst r))) (own.lnd i j a) (σ.set j (some (.ref a))) H := by
  have hi : i < F.length := (List.getElem?_eq_some_iff.mp hf).1
  have hjl : j < F.length := (List.getElem?_eq_some_iff.mp hj).1
  have s := ok.sl i
  unfold Slt at s
  rw [hf, hd] at s
  obtain ⟨x, hx, rs, nd⟩ := s
  obtain ⟨l', xs, rr, rfl, eo, hl, rp⟩ := RS_oo.mp rs
  rw [hσ] at hx
  cases hx
  obtain ⟨a, ys, o1, o2, rfl, hxp, ha, hr, hbk⟩ := RSP.row m rp hp
  have am : a ∈ own.sl i := by rw [eo]; simp
  have hos : ∀ b, b ∈ l :: (o1 ++ o2) → b ∈ own.sl i := fun b hb => by
    rw [eo]
    simp at hb ⊢
    rcases hb with z | z | z <;> simp [z]
  have na : a ∉ l :: (o1 ++ o2) := by
    rw [eo] at nd
    intro z
    obtain ⟨n1, n2⟩ := List.nodup_cons.mp nd
    rw [List.nodup_append] at n2
    obtain ⟨_, n3, n4⟩ := n2
    obtain ⟨n5, _⟩ := List.nodup_cons.mp n3
    rcases List.mem_cons.mp z with z | z
    · exact n1 (by rw [← z]; simp)
    · rcases List.mem_append.mp z with z | z
      · exact n4 a z a (by simp) rfl
      · exact n5 z
  have sub : ∀ q b, b ∈ (own.lnd i j a).sl q → (q = j ∧ b = a) ∨ (q ≠ i ∧ q ≠ j ∧ b ∈ own.sl q) := fun q b hb => by
    unfold Own.lnd at hb
    dsimp only at hb
    split at hb
    · cases hb
    · rename_i n1
      split at hb
      · rename_i n2; exact .inl ⟨n2, by simpa using hb⟩
      · rename_i n2; exact .inr ⟨n1, n2, hb⟩
  have H0' : ∀ {b}, b ∉ l :: (o1 ++ o2) → (c.lnd H (l :: (o1 ++ o2)) j a).H0 b = c.H0 b := fun {b} nb => by
    show (if b ∈ l :: (o1 ++ o2) then H b else c.H0 b) = _
    rw [if_neg nb]
  have ca : c.H0 a = none := (ok.nw i a am).2.resolve_right fun z => by rw [hf] at z; exact z.1
  have up : ∀ dp, Up G.K (Av c (ow own) dp) (Av (c.lnd H (l :: (o1 ++ o2)) j a) (ow (own.lnd i j a)) dp) H H := fun dp => Up.same (Same.refl H) fun b h => Av_lnd hos am h
  have out : ∀ {q b}, b ∈ own.sl q → q ≠ i → b ∉ l :: (o1 ++ o2) ∧ b ≠ a := fun {q b} hb ne => ⟨fun z => ne (ok.dj q i b hb (hos b z)), fun z => ne (ok.dj q i b hb (by rw [z]; exact am))⟩
  have xl : xs.length = m.length := RSP.len m rp
  refine ⟨a, xs, o1, o2, eo, hl, hxp, xl, hbk, ⟨by rw [List.length_set, List.length_set, List.length_set]; exact ok.lF, by rw [List.length_set, List.length_set]; exact ok.lE, fun b o n e => ?_, fun b q => ok.tr b q.1, fun q1 q2 b h1 h2 => ?_, fun q b h => ?_, fun b h => ?_, fun q b h => ?_, fun q => ?_, fun b o e => ?_⟩⟩
  · change (if b ∈ l :: (o1 ++ o2) then H b else c.H0 b) = some o at e
    by_cases z : b ∈ l :: (o1 ++ o2)
    · rw [if_pos z] at e; exact e
    · rw [if_neg z] at e
      exact ok.same b o (fun y => n ⟨y, z⟩) e
  · rcases sub q1 b h1 with ⟨e1, e2⟩ | ⟨n1, n2, m1⟩
    · rcases sub q2 b h2 with ⟨e3, e4⟩ | ⟨n3, n4, m2⟩
      · rw [e1, e3]
      · exact absurd e2 (out m2 n3).2
    · rcases sub q2 b h2 with ⟨e3, e4⟩ | ⟨n3, n4, m2⟩
      · exact absurd e4 (out m1 n1).2
      · exact ok.dj q1 q2 b m1 m2
  · rcases sub q b h with ⟨_, e2⟩ | ⟨_, _, m1⟩
    · rw [e2]; exact ok.dt i a am
    · exact ok.dt q b m1
  · refine ⟨(ok.nt b h).1, ?_⟩
    rw [H0' fun z => ok.dt i b (hos b z) h]
    exact (ok.nt b h).2
  · rcases sub q b h with ⟨e1, e2⟩ | ⟨n1, n2, m1⟩
    · rw [e2]
      exact ⟨by rw [ha]; simp, .inl (by rw [H0' na]; exact ca)⟩
    · refine ⟨(ok.nw q b m1).1, ?_⟩
      rw [H0' (out m1 n1).1]
      refine (ok.nw q b m1).2.imp id fun z => ⟨zf_set (fun e => n2 e.symm) (zf_set (fun e => n1 e.symm) z.1), z.2, (out m1 n1).1⟩
  · by_cases ei : q = i
    · subst ei
      unfold Slt
      rw [List.getElem?_set_ne (fun z => ij z.symm), List.getElem?_set_self hi]
      show (σ.set j (some (V.ref a)))[q]? = _
      rw [List.getElem?_set_ne (fun z => ij z.symm)]
      exact hσ
    · by_cases ej : q = j
      · subst ej
        unfold Slt
        rw [List.getElem?_set_self (by rw [List.length_set]; exact hjl), List.getElem?_set_self (by rw [ok.lE, ← ok.lF]; exact hjl)]
        have os : (own.lnd i q a).sl q = [a] := by unfold Own.lnd; dsimp only; rw [if_neg ei, if_pos rfl]
        rw [os]
        refine ⟨.ref a, List.getElem?_set_self (by rw [← ok.lF]; exact hjl), RS_ol.mpr ⟨a, ys, rfl, rfl, ha, RL.up (up false) _ hr⟩, by simp, ?_⟩
        show (if q = q then some (V.ref a) else c.vl q) = _
        rw [if_pos rfl]
      · have s := ok.sl q
        have osj : (own.lnd i j a).sl q = own.sl q := by unfold Own.lnd; dsimp only; rw [if_neg ei, if_neg ej]
        have vq : (c.lnd H (l :: (o1 ++ o2)) j a).vl q = c.vl q := by
          show (if q = j then some (V.ref a) else c.vl q) = _
          rw [if_neg ej]
        unfold Slt at s ⊢
        rw [List.getElem?_set_ne (fun z => ej z.symm), List.getElem?_set_ne (fun z => ei z.symm), List.getElem?_set_ne (fun z => ej z.symm), List.getElem?_set_ne (fun z => ej z.symm), osj]
        split
        · rename_i dp d hf he; rw [hf, he] at s; obtain ⟨x, h1, h2⟩ := s; exact ⟨x, h1, R.up (up dp) _ h2⟩
        · rename_i dp d hf he; rw [hf, he] at s; obtain ⟨x, h1, h2⟩ := s; exact ⟨x, h1, RO.up h2 (up dp) fun a o m q => q⟩
        · rename_i d hf he; rw [hf, he] at s; obtain ⟨x, h1, h2, h3⟩ := s; exact ⟨x, h1, RO.up h2 (up false) (fun a o m q => q), fun b z => ⟨h3 b z, (out z ei).1⟩⟩
        · rename_i hf; rw [hf] at s; simpa using s
        · rename_i sh d hf he; rw [hf, he] at s; obtain ⟨x, h1, h2, h3⟩ := s; exact ⟨x, h1, RS.up (up false) _ h2 (fun a o m q => q), h3⟩
        · rename_i sh d hf he; rw [hf, he] at s; obtain ⟨x, h1, h2, h3, h4⟩ := s; exact ⟨x, h1, RS.up (up false) _ h2 (fun a o m q => q), h3, by rw [vq]; exact h4⟩
        · trivial
  · obtain ⟨h1, h2⟩ := ok.lk b o e
    refine ⟨h1, h2.imp id fun n z => n ?_⟩
    rcases z with ⟨q, hq⟩ | z
    · rcases sub q b hq with ⟨_, e2⟩ | ⟨_, _, m1⟩
      · rw [e2]; exact .inl ⟨i, am⟩
      · exact .inl ⟨q, m1⟩
    · exact .inr z
theorem Ok.unlend {i j l : Nat} {m : List D} {p : Nat} {r' : List D} {a : Addr} {o1 o2 : List Addr} {xs : List V} (ok : Ok G c F en own σ H) (hf : F[i]? = some (.dt (.o (.o .s)))) (ij : i ≠ j) (hl : H l = some (.lst xs)) (hb : Bk G (Av c (ow own) false) H m p xs (o1 ++ (a :: o2)) o1 o2 a) (nd : (own.sl i).Nodup)
    (eo : own.sl i = l :: (o1 ++ (a :: o2))) (ok2 : Ok G ((c.lnd H (l :: (o1 ++ o2)) j a).pin (own.lnd i j a) H) F' en' own2 σ' H') (hF : F'[i]? = some (.x l)) (hF2 : F'[j]? = some (.ma (.o .s))) (hr : en'[j]? = some (some (.lst r'))) :
    ∃ own3, Ok G c ((F'.set j .n).set i (.dt (.o (.o .s)))) (en'.set i (some (.lst (m.set p (.lst r'))))) own3 σ' H' ∧ σ'[i]? = some (some (.ref l)) := by
  have hi' : i < F'.length := (List.getElem?_eq_some_iff.mp hF).1
  have hj' : j < F'.length := (List.getElem?_eq_some_iff.mp hF2).1
  have hie : i < en'.length := by rw [ok2.lE, ← ok2.lF]; exact hi'
  have am : a ∈ own.sl i := by rw [eo]; simp
  -- the same row
  have s2 := ok2.sl j
  unfold Slt at s2
  rw [hF2, hr] at s2
  obtain ⟨x2, hx2, rs2, nd2, vl2⟩ := s2
  obtain ⟨a2, ys2, rfl, eo2, ha2, hr2⟩ := RS_ol.mp rs2
  have : (if j = j then some (V.ref a) else c.vl j) = some (.ref a2) := vl2
  rw [if_pos rfl] at this
  obtain rfl : a = a2 := by injection this with this; injection this
  have hos : ∀ b, b ∈ l :: (o1 ++ o2) → b ∈ own.sl i := fun b hb => by
    rw [eo]
    simp at hb ⊢
    rcases hb with z | z | z <;> simp [z]
  have hos' : ∀ b, b ∈ own.sl i → b = a ∨ b ∈ l :: (o1 ++ o2) := fun b hb => by
    rw [eo] at hb
    simp at hb ⊢
    rcases hb with z | z | z | z <;> simp [z]
  have na : a ∉ l :: (o1 ++ o2) := by
    rw [eo] at nd
    intro z
    obtain ⟨n1, n2⟩ := List.nodup_cons.mp nd
    rw [List.nodup_append] at n2
    obtain ⟨_, n3, n4⟩ := n2
    obtain ⟨n5, _⟩ := List.nodup_cons.mp n3
    rcases List.mem_cons.mp z with z | z
    · exact n1 (by rw [← z]; simp)
    · rcases List.mem_append.mp z with z | z
      · exact n4 a z a (by simp) rfl
      · exact n5 z
  have stay : ∀ b, b ∈ l :: (o1 ++ o2) → ∀ o, H b = some o → H' b = some o := fun b hb o e => ok2.same b o (fun z => z.2 hb) (by show (if b ∈ l :: (o1 ++ o2) then H b else c.H0 b) = some o; rw [if_pos hb]; exact e)
  have al : ∀ b, b ∈ own.sl i → H b ≠ none := fun b hb => (ok.nw i b hb).1
  have al' : ∀ b, b ∈ own.sl i → H' b ≠ none := fun b hb => by
    rcases hos' b hb with z | z
    · rw [z, ha2]; simp
    · cases e : H b with
      | none => exact absurd e (al b hb)
      | some o => rw [stay b z o e]; simp
  have c0 : ∀ b, b ∈ own.sl i → c.H0 b = none := fun b hb => (ok.nw i b hb).2.resolve_right fun z => by rw [hf] at z; exact z.1
  have hid0 : ∀ {b}, (c.lnd H (l :: (o1 ++ o2)) j a).H0 b = none → b ∉ l :: (o1 ++ o2) ∧ c.H0 b = none := fun {b} e => by
    change (if b ∈ l :: (o1 ++ o2) then H b else c.H0 b) = none at e
    by_cases q : b ∈ l :: (o1 ++ o2)
    · rw [if_pos q] at e; exact absurd e (al b (hos b q))
    · rw [if_neg q] at e; exact ⟨q, e⟩
  have aj : a ∈ own2.sl j := by rw [eo2]; simp
  have apart : ∀ q b, q ≠ j → b ∈ own2.sl q → b ∉ own.sl i := fun q b ne hb z => by
    rcases hos' b z with y | y
    · exact ne (ok2.dj q j b hb (by rw [y]; exact aj))
    · rcases (ok2.nw q b hb).2 with e | e
      · exact (hid0 e).1 y
      · exact e.2.2 y
  have apart' : ∀ b, own2.tm b → b ∉ own.sl i := fun b hb z => by
    rcases hos' b z with y | y
    · exact ok2.dt j a aj (by rw [← y]; exact hb)
    · exact (hid0 (ok2.nt b hb).2).1 y
  let own3 : Own := ⟨fun q => if q = i then own.sl i else if q = j then [] else own2.sl q, own2.tm⟩
  have sub : ∀ q b, b ∈ own3.sl q → (q = i ∧ b ∈ own.sl i) ∨ (q ≠ i ∧ q ≠ j ∧ b ∈ own2.sl q) := fun q b hb => by
    show _ ∨ _
    change b ∈ (if q = i then own.sl i else if q = j then [] else own2.sl q) at hb
    split at hb
    · rename_i e; exact .inl ⟨e, hb⟩
    · rename_i n1
      split at hb
      · cases hb
      · rename_i n2; exact .inr ⟨n1, n2, hb⟩
  have av : ∀ {dp : Bool} {b : Addr}, Av ((c.lnd H (l :: (o1 ++ o2)) j a).pin (own.lnd i j a) H) (ow own2) dp b → Av c (ow own3) dp b := fun {dp b} h => by
    have nb : b ∉ own.sl i := fun z => by
      rcases hos' b z with y | y
      · exact h.1 (.inl ⟨j, by rw [y]; exact aj⟩)
      · rcases h.2.2 with e | e
        · exact (hid0 e).1 y
        · exact e.2 y
    refine ⟨fun z => ?_, fun e => (hid0 (h.2.1 e)).2, h.2.2.imp (fun e => (hid0 e).2) fun e => e.1⟩
    rcases z with ⟨q, hq⟩ | z
    · rcases sub q b hq with ⟨_, y⟩ | ⟨_, _, y⟩
      · exact nb y
      · exact h.1 (.inl ⟨q, y⟩)
    · exact h.1 (.inr z)
  have up : ∀ dp, Up G.K (Av ((c.lnd H (l :: (o1 ++ o2)) j a).pin (own.lnd i j a) H) (ow own2) dp) (Av c (ow own3) dp) H' H' := fun dp => Up.same (Same.refl H') fun b h => av h
  have upH : Up G.K (Av c (ow own) false) (Av c (ow own3) false) H H' := ((Up.same (Same.refl H) fun b h => Av_lnd hos am h).comp (Up.pin (dp := false) ok2)).comp (up false)
  have rows : RSP G (Av c (ow own3) false) H' (m.set p (.lst r')) (.rep (.o .s)) xs (o1 ++ (a :: o2)) :=
    hb _ H' r' ys2 (fun d x o hs h => RS.up upH _ h fun b q mb e => stay b (List.mem_cons_of_mem _ (hs b mb)) q e) ha2 (RL.up (up false) _ hr2)
  have hσ' : σ'[i]? = some (some (.ref l)) := by
    have s := ok2.sl i
    unfold Slt at s
    rw [hF] at s
    exact s
  refine ⟨own3, ⟨by rw [List.length_set, List.length_set]; exact ok2.lF, by rw [List.length_set]; exact ok2.lE, fun b o s e => ?_, fun b s => ?_, fun q1 q2 b h1 h2 => ?_, fun q b h => ?_, fun b h => ⟨(ok2.nt b h).1, (hid0 (ok2.nt b h).2).2⟩, fun q b h => ?_, fun q => ?_, fun b o e => ?_⟩, hσ'⟩
  · by_cases q : b ∈ own.sl i
    · rw [c0 b q] at e; cases e
    · have nq : b ∉ l :: (o1 ++ o2) := fun z => q (hos b z)
      exact ok2.same b o (fun z => s z.1) (by show (if b ∈ l :: (o1 ++ o2) then H b else c.H0 b) = some o; rw [if_neg nq]; exact e)
  · by_cases q : b ∈ own.sl i
    · exact al' b q
    · exact ok2.tr b ⟨s, fun z => q (hos b z)⟩
  · rcases sub q1 b h1 with ⟨e1, y1⟩ | ⟨n1, n2, y1⟩
    · rcases sub q2 b h2 with ⟨e2, y2⟩ | ⟨n3, n4, y2⟩
      · rw [e1, e2]
      · exact absurd y1 (apart q2 b n4 y2)
    · rcases sub q2 b h2 with ⟨e2, y2⟩ | ⟨n3, n4, y2⟩
      · exact absurd y2 (apart q1 b n2 y1)
      · exact ok2.dj q1 q2 b y1 y2
  · rcases sub q b h with ⟨_, y⟩ | ⟨_, _, y⟩
    · exact fun z => apart' b z y
    · exact ok2.dt q b y
  · rcases sub q b h with ⟨_, y⟩ | ⟨n1, n2, y⟩
    · exact ⟨al' b y, .inl (c0 b y)⟩
    · refine ⟨(ok2.nw q b y).1, ?_⟩
      rcases (ok2.nw q b y).2 with z | z
      · exact .inl (hid0 z).2
      · exact .inr ⟨zf_set (fun e => n1 e.symm) (zf_set (fun e => n2 e.symm) z.1), z.2.1⟩
  · by_cases ei : q = i
    · subst ei
      unfold Slt
      rw [List.getElem?_set_self (by rw [List.length_set]; exact hi'), List.getElem?_set_self hie]
      have os : own3.sl q = own.sl q := by show (if q = q then own.sl q else _) = _; rw [if_pos rfl]
      rw [os]
      exact ⟨.ref l, hσ', RS_oo.mpr ⟨l, xs, o1 ++ (a :: o2), rfl, eo, stay l (by simp) _ hl, rows⟩, nd⟩
    · by_cases ej : q = j
      · subst ej
        unfold Slt
        rw [List.getElem?_set_ne (fun z => ei z.symm), List.getElem?_set_self hj']
        trivial
      · have s := ok2.sl q
        have os : own3.sl q = own2.sl q := by show (if q = i then own.sl i else if q = j then [] else own2.sl q) = _; rw [if_neg ei, if_neg ej]
        unfold Slt at s ⊢
        rw [List.getElem?_set_ne (fun z => ei z.symm), List.getElem?_set_ne (fun z => ej z.symm), List.getElem?_set_ne (fun z => ei z.symm), os]
        split
        · rename_i dp d hf he; rw [hf, he] at s; obtain ⟨x, h1, h2⟩ := s; exact ⟨x, h1, R.up (up dp) _ h2⟩
        · rename_i dp d hf he; rw [hf, he] at s; obtain ⟨x, h1, h2⟩ := s; exact ⟨x, h1, RO.up h2 (up dp) fun a o m q => q⟩
        · rename_i d hf he; rw [hf, he] at s; obtain ⟨x, h1, h2, h3⟩ := s; exact ⟨x, h1, RO.up h2 (up false) (fun a o m q => q), fun a z => (h3 a z).1⟩
        · rename_i hf; rw [hf] at s; simpa using s
        · rename_i sh d hf he; rw [hf, he] at s; obtain ⟨x, h1, h2, h3⟩ := s; exact ⟨x, h1, RS.up (up false) _ h2 (fun a o m q => q), h3⟩
        · rename_i sh d hf he; rw [hf, he] at s; obtain ⟨x, h1, h2, h3, h4⟩ := s
          refine ⟨x, h1, RS.up (up false) _ h2 (fun a o m q => q), h3, ?_⟩
          have : (if q = j then some (V.ref a) else c.vl q) = some x := h4
          rwa [if_neg ej] at this
        · trivial
  · obtain ⟨h1, h2⟩ := ok.lk b o e
    have nlnd : Im o ∨ ¬ ow (own.lnd i j a) b := h2.imp id fun n z => n (by
      rcases z with ⟨q, hq⟩ | z
      · unfold Own.lnd at hq
        dsimp only at hq
        split at hq
        · cases hq
        · split at hq
          · rw [show b = a by simpa using hq]; exact .inl ⟨i, am⟩
          · exact .inl ⟨q, hq⟩
      · exact .inr z)
    obtain ⟨h3, h4⟩ := ok2.lk b o (pin_of h1 nlnd)
    refine ⟨h3, ?_⟩
    by_cases im : Im o
    · exact .inl im
    · refine .inr fun z => ?_
      rcases z with ⟨q, hq⟩ | z
      · rcases sub q b hq with ⟨_, y⟩ | ⟨_, _, y⟩
        · exact (h2.resolve_left im) (.inl ⟨i, y⟩)
        · exact (h4.resolve_left im) (.inl ⟨q, y⟩)
      · exact (h4.resolve_left im) (.inr z)
def evRows (i j : Nat) (b : EvS) : Nat → Nat → EvS
  | 0, _, en => .ok (.nx en)
  | n + 1, p, en => match en[i]? with
    | some (some (.lst m)) => match m[p]? with
      | some (.lst r) => bnd (noR (b (en.set j (some (.lst r))))) fun fl => match fl with
        | .nx en' => match en'[j]? with
          | some (some (.lst r')) => evRows i j b n (p + 1) (en'.set i (some (.lst (m.set p (.lst r')))))
          | _ => .error .stuck
        | _ => .error .stuck
      | _ => .error .stuck
    | _ => .error .stuck
def sForRows (i j : Nat) (b : EvS) : EvS := fun en => match en[i]? with
  | some (some (.lst m)) => evRows i j b m.length 0 en
  | _ => .error .stuck
abbrev rowF (F : List SF) (i j : Nat) (l : Addr) : List SF := (F.set i (.x l)).set j (.ma (.o .s))
theorem ds_forRows (g : Gs G N sc k S.W X) (i j : Nat) {x y : Str} {px py pos : Pos} {body : List Stmt} {eb : EvS} (hb : ∀ l, PSs X body (TSv G { S with Fc := rowF F i j l } (rowF F i j l) (rowF F i j l) eb))
    (hN : N[i]? = some y := by rfl) (hv : visB sc y = true := by rfl) (hx : nameB y = true := by rfl) (hf : F[i]? = some (.dt (.o (.o .s))) := by rfl) (hNj : N[j]? = some x := by rfl) (hxj : locB sc x = true := by rfl) (hfj : F[j]? = some .n := by rfl) (ij : i ≠ j := by decide)
    (ho : ∀ l, ((rowF F i j l).set j .n).set i (.dt (.o (.o .s))) = F := by intro _; rfl)
    (hs : ∀ x, foldedSetIterable (.Name y py) X.env x = pure x := by intro _; rfl) :
    PS X (.For (.Name x px) (.Name y py) body [] pos) (TSv G S F F (sForRows i j eb)) := by
  obtain ⟨n1, n2, _⟩ := nameB_d hx
  have hi : i < F.length := (List.getElem?_eq_some_iff.mp hf).1
  have hj : j < F.length := (List.getElem?_eq_some_iff.mp hfj).1
  have base := fun l => ps_for (pos := pos) g.g.po g.g.calm (pi_list (pe_var (pos := py) (i := i) (by rw [g.g.nN]; exact hN) (visB_vis hv g.g.sc) n1 n2)) (pg_name (pos := px) (i := j) (by rw [g.g.nN]; exact g.g.nd) (by rw [g.g.nN]; exact hNj) (locB_loc hxj g.g.sc) (.inl (g.fn x))) (hb l) hs
  refine ⟨fun pins s σ H D I hw0 => ?_⟩
  obtain ⟨c, en, own, ok, m⟩ := hw0
  unfold sForRows at m
  split at m
  · rename_i m1 hen
    have s0 := ok.sl i
    unfold Slt at s0
    rw [hf, hen] at s0
    obtain ⟨xv, hσ, rs, _⟩ := s0
    obtain ⟨l, xs, rr, rfl, _, hl, _⟩ := RS_oo.mp rs
    refine (base l).run pins s σ H D I ⟨.ref l, hσ, l, rfl, ⟨xs, SqL.of hl⟩, ?_⟩
    refine ⟨fun q mm σ H => mm = m1.length - q ∧ q ≤ m1.length ∧ ∃ en own md, Ok G c F en own σ H ∧ en[i]? = some (some (.lst md)) ∧ md.length = m1.length ∧ σ[i]? = some (some (.ref l)) ∧ MtS G S.W c (evRows i j eb (m1.length - q) q en) (Aft G S c F D), ⟨_, rfl, Nat.zero_le _, en, own, m1, ok, hen, rfl, hσ, m⟩, ?_⟩
    rintro q mm σ H ⟨rfl, hq, en, own, md, ok, hen, hmd, hσ, mt⟩
    have s1 := ok.sl i
    unfold Slt at s1
    rw [hf, hen] at s1
    obtain ⟨xv, hx1, rs, nd⟩ := s1
    obtain ⟨l', xs, rr, rfl, eo, hl, rp⟩ := RS_oo.mp rs
    rw [hσ] at hx1
    cases hx1
    have xl : xs.length = md.length := RSP.len md rp
    by_cases hlt : q < m1.length
    · obtain ⟨n, hn⟩ : ∃ n, m1.length - q = n + 1 := ⟨m1.length - q - 1, by omega⟩
      rw [hn] at mt ⊢
      unfold evRows at mt
      rw [hen] at mt
      dsimp only at mt
      split at mt
      · rename_i r hr
        obtain ⟨fl', efl, haft⟩ := noR_okS mt.bnd
        cases fl' <;> first | exact haft.elim | skip
        rename_i en'
        dsimp only at haft
        split at haft
        · rename_i r' hr'
          obtain ⟨a, xs', o1, o2, eo', hl', hxp, _, hbk, okL⟩ := ok.lend hf hen hσ hr ij hfj
          rw [hl] at hl'
          cases hl'
          refine .inr ⟨by rw [g.g.K]; exact ⟨xs, .ref a, SqL.of hl, hxp⟩, fun σ' H' => ∃ en own md, Ok G c F en own σ' H' ∧ en[i]? = some (some (.lst md)) ∧ md.length = m1.length ∧ σ'[i]? = some (some (.ref l)) ∧ MtS G S.W c (evRows i j eb (m1.length - (q + 1)) (q + 1) en) (Aft G S c F D), fun σ' H' z => ⟨_, by omega, rfl, by omega, z⟩, fun x H' z => ?_⟩
          obtain ⟨rfl, z⟩ := z
          rw [g.g.K] at z
          have zx := z xs (SqL.of hl)
          rw [hxp] at zx
          cases zx
          refine ⟨_, _, _, okL.pin, ?_⟩
          rw [efl]
          intro σ' H' own' ok2
          have hie : i < en.length := by rw [ok.lE, ← ok.lF]; exact hi
          have hFi : (rowF F i j l)[i]? = some (.x l) := by rw [List.getElem?_set_ne (fun z => ij z.symm), List.getElem?_set_self hi]
          have hFj : (rowF F i j l)[j]? = some (.ma (.o .s)) := List.getElem?_set_self (by rw [List.length_set]; exact hj)
          obtain ⟨own3, ok3, hσ3⟩ := ok.unlend hf ij hl hbk nd eo' ok2 hFi hFj hr'
          rw [ho l] at ok3
          have hie' : i < en'.length := by
            have := ok3.lE
            rw [List.length_set] at this
            rw [this, ← ok3.lF]
            exact hi
          refine ⟨_, own3, md.set q (.lst r'), ok3, List.getElem?_set_self hie', by rw [List.length_set]; exact hmd, hσ3, ?_⟩
          rw [show m1.length - (q + 1) = n by omega]
          exact haft
        · exact haft.elim
      · exact mt.elim
    · have e : q = m1.length := by omega
      subst e
      rw [Nat.sub_self] at mt
      refine .inl ⟨by rw [g.g.K]; exact ⟨xs, SqL.of hl, by omega⟩, mt σ H own ok⟩
  · exact m.elim
end
end Pi
end
noncomputable section
namespace Pi
open PySem PySem.Spec PyProof.Rows L2
section
variable {G : Gb} {S : Se} {W : WX} {N : List Str} {sc scope : Scope} {k : Nat} {X : Cx} {F F' F1 F2 F3 Fh Fe Fo : List SF} {f f1 f2 fv : VF} {c : Fr} {en en' : En} {own own0 own1 own2 : Own} {σ σ' : L2.St} {H H' H0 H1 : Hp} {A A' : Addr → Prop} {sh e : Sh} {fl : SF}
theorem RSP.snocE {d : D} {x : V} {o : List Addr} : ∀ (m : List D) {xs : List V} {r : List Addr}, RSP G A H m (.rep e) xs r → RS G A H d e x o → RSP G A H (m ++ [d]) (.rep e) (xs ++ [x]) (r ++ o)
  | [], xs, r, h, q => by
    unfold RSP at h
    obtain ⟨rfl, rfl⟩ := h
    exact ⟨x, [], o, [], rfl, by simp, q, by unfold RSP; exact ⟨rfl, rfl⟩⟩
  | a :: m, xs, r, h, q => by
    obtain ⟨y, ys, o1, o2, rfl, rfl, h1, h2⟩ := h
    exact ⟨y, ys ++ [x], o1, o2 ++ o, rfl, by simp, h1, RSP.snocE m h2 q⟩
theorem RSP.setE {d : D} {x : V} {o : List Addr} : ∀ (m : List D) {xs : List V} {r : List Addr} {n : Nat}, RSP G A H m (.rep e) xs r → n < m.length → RS G A H d e x o → ∃ r', RSP G A H (m.set n d) (.rep e) (xs.set n x) r' ∧ (∀ b, b ∈ r' → b ∈ r ∨ b ∈ o) ∧ (r.Nodup → o.Nodup → (∀ b, b ∈ o → b ∉ r) → r'.Nodup)
  | [], xs, r, n, h, hn, q => by simp at hn
  | a :: m, xs, r, 0, h, hn, q => by
    obtain ⟨y, ys, o1, o2, rfl, rfl, h1, h2⟩ := h
    refine ⟨o ++ o2, ⟨x, ys, o, o2, rfl, rfl, q, h2⟩, fun b hb => ?_, fun n1 n2 n3 => ?_⟩
    · rcases List.mem_append.mp hb with z | z
      · exact .inr z
      · exact .inl (List.mem_append_right _ z)
    · rw [List.nodup_append] at n1 ⊢
      exact ⟨n2, n1.2.1, fun b hb b' hb' z => n3 b hb (by rw [z]; exact List.mem_append_right _ hb')⟩
  | a :: m, xs, r, n + 1, h, hn, q => by
    obtain ⟨y, ys, o1, o2, rfl, rfl, h1, h2⟩ := h
    obtain ⟨r', q1, q2, q3⟩ := RSP.setE m (n := n) h2 (by simpa using hn) q
    refine ⟨o1 ++ r', ⟨y, ys.set n x, o1, r', rfl, rfl, h1, q1⟩, fun b hb => ?_, fun n1 n2 n3 => ?_⟩
    · rcases List.mem_append.mp hb with z | z
      · exact .inl (List.mem_append_left _ z)
      · exact (q2 b z).imp (fun z => List.mem_append_right _ z) id
    · rw [List.nodup_append] at n1 ⊢
      refine ⟨n1.1, q3 n1.2.1 n2 fun b hb z => n3 b hb (List.mem_append_right _ z), fun b hb b' hb' z => ?_⟩
      subst z
      rcases q2 b hb' with y | y
      · exact n1.2.2 b hb b y rfl
      · exact n3 b y (List.mem_append_left _ hb)
theorem Ok.wrOO {i l : Nat} {md : List D} {xs xs' : List V} {r r' os0 : List Addr} {md' : List D} (ok : Ok G c F en own σ H) (hf : F[i]? = some (.dt (.o (.o .s)))) (hσ : σ[i]? = some (some (.ref l))) (rs : RS G (Av c (ow own) false) H (.lst md) (.o (.o .s)) (.ref l) (own.sl i)) (eo : own.sl i = l :: r) (nd : (own.sl i).Nodup) (hl : H l = some (.lst xs))
    (t0 : ∀ a, a ∈ os0 → own.tm a) (hr : ∀ b, b ∈ r' → b ∈ r ∨ b ∈ os0) (nr : r'.Nodup) (new : RSP G (Av c (ow own) false) H md' (.rep (.o .s)) xs' r') :
    Ok G c F (en.set i (some (.lst md'))) ⟨fun j => if j = i then l :: r' else own.sl j, fun a => own.tm a ∧ a ∉ os0⟩ σ (upd H l (.lst xs')) := by
  have li : l ∈ own.sl i := by rw [eo]; simp
  have nl : l ∉ r' := fun z => by
    rcases hr l z with y | y
    · rw [eo] at nd; exact (List.nodup_cons.mp nd).1 y
    · exact ok.dt i l li (t0 l y)
  have u1 : Up G.K (Av c (ow own) false) (Av c (ow own) false) H (upd H l (.lst xs')) := Up.write hl trivial fun z => z.1 (.inl ⟨i, li⟩)
  have sub : ∀ a, ow ⟨fun j => if j = i then l :: r' else own.sl j, fun a => own.tm a ∧ a ∉ os0⟩ a → ow own a := fun a z => by
    rcases z with ⟨j, hj⟩ | z
    · dsimp only at hj
      split at hj
      · rcases List.mem_cons.mp hj with y | y
        · rw [y]; exact .inl ⟨i, li⟩
        · rcases hr a y with w | w
          · exact .inl ⟨i, by rw [eo]; exact List.mem_cons_of_mem _ w⟩
          · exact .inr (t0 a w)
      · exact .inl ⟨j, hj⟩
    · exact .inr z.1
  refine ok.chT t0 hf rfl hσ (RS.wr _ rs) (fun s z => by cases z) (fun b o nb e => ?_) (fun a ha => ?_) (List.nodup_cons.mpr ⟨nl, nr⟩) (fun a ha => ?_) (RS_oo.mpr ⟨l, xs', r', rfl, rfl, upd_same, ?_⟩)
  · rw [upd_ne (fun z => nb (by rw [z]; exact li))]; exact e
  · by_cases z : a = l
    · rw [z, upd_same]; simp
    · rw [upd_ne z]; exact (ok.nw i a ha).1
  · rcases List.mem_cons.mp ha with y | y
    · rw [y, upd_same]; exact ⟨by simp, .inl li⟩
    · have ne : a ≠ l := fun z => nl (by rw [← z]; exact y)
      rw [upd_ne ne]
      rcases hr a y with w | w
      · have : a ∈ own.sl i := by rw [eo]; exact List.mem_cons_of_mem _ w
        exact ⟨(ok.nw i a this).1, .inl this⟩
      · exact ⟨(ok.nt a (t0 a w)).1, .inr (.inr w)⟩
  · exact RSP.up (u1.comp (Up.sub sub rfl)) _ new fun a o ha hx => by rw [upd_ne (fun z => nl (by rw [← z]; exact ha))]; exact hx
theorem RO.toS {d : D} {v : V} {os : List Addr} {dp : Bool} (hl : isLD d = true) (r0 : RO G (Av c (ow own) dp) H d v os) : os.Nodup ∧ RS G (Av c (ow own) false) H d (.o .s) v os := by
  have up : Up G.K (Av c (ow own) dp) (Av c (ow own) false) H H := Up.sub (fun _ h => h) (by cases dp <;> rfl)
  cases d with
  | lst l => obtain ⟨a, xs, e1, e2, e3, e4⟩ := r0; exact ⟨by rw [e2]; exact List.nodup_cons.mpr ⟨List.not_mem_nil, List.nodup_nil⟩, RS_ol.mpr ⟨a, xs, e1, e2, e3, RL.up up _ e4⟩⟩
  | dct ks l => obtain ⟨a, kvs, e1, e2, e3, e4, e5⟩ := r0; exact ⟨by rw [e2]; exact List.nodup_cons.mpr ⟨List.not_mem_nil, List.nodup_nil⟩, RS_od.mpr ⟨a, kvs, e1, e2, e3, e4, RL.up up _ e5⟩⟩
  | _ => cases hl
theorem Ok.getOO {i : Nat} {md : List D} (ok : Ok G c F en own σ H) (hf : F[i]? = some (.dt (.o (.o .s)))) (hd : en[i]? = some (some (.lst md))) : ∃ l xs r, σ[i]? = some (some (.ref l)) ∧ own.sl i = l :: r ∧ H l = some (.lst xs) ∧ RSP G (Av c (ow own) false) H md (.rep (.o .s)) xs r ∧ RS G (Av c (ow own) false) H (.lst md) (.o (.o .s)) (.ref l) (own.sl i) ∧ (own.sl i).Nodup := by
  have s := ok.sl i
  unfold Slt at s
  rw [hf, hd] at s
  obtain ⟨x, h1, rs, nd⟩ := s
  obtain ⟨l, xs, r, rfl, eo, hl, rp⟩ := RS_oo.mp rs
  exact ⟨l, xs, r, h1, eo, hl, rp, rs, nd⟩
def sAppO (i : Nat) (ev : EvE) : EvS := fun en => bnd (getL i en) fun l => bnd (ev en) fun d => if l.length < sizeLine ∧ isLD d = true then .ok (.nx (en.set i (some (.lst (l ++ [d]))))) else .error .stuck
theorem ds_appO (g : Gv G N sc X) (i : Nat) {x : Str} {e : Expr} {px apos cpos pos : Pos} {ev : EvE} {dp : Bool} (he : PE X e (TEv G S.W F F1 (.uq dp) ev)) (hN : N[i]? = some x := by rfl) (hv : visB sc x = true := by rfl) (hx : nameB x = true := by rfl) (hf0 : F[i]? = some (.dt (.o (.o .s))) := by rfl) (hf : F1[i]? = some (.dt (.o (.o .s))) := by rfl)
    (hs : starEach [e] X.env = [(false, eval e X.env)] := by rfl) (hline : (apos.endLine == cpos.line) = true := by rfl) :
    PS X (.Expr (.Call (.Attribute (.Name x px) "append" apos) [e] [] cpos) pos) (TSv G S F F1 (sAppO i ev)) := by
  obtain ⟨h1, h2, _⟩ := nameB_d hx
  refine ps_imp (ps_expr (pe_bm PySem.F.plainAttrs_list PySem.F.slot_list_append PySem.F.type_list_append mt_append (pe_var (i := i) (by rw [g.nN]; exact hN) (visB_vis hv g.sc) h1 h2) (pa_cons he pa_nil hs) rfl (by rw [hs]; rfl) hline hs rfl) rfl) ?_
  rintro D σ H ⟨c, en, own, ok, m⟩
  obtain ⟨l, hl, m⟩ := getL_ok m.bnd
  obtain ⟨p, xs, r, hσ, eo, hp, rp, _, _⟩ := ok.getOO hf0 hl
  refine ⟨.ref p, hσ, .inl ⟨rfl, xs, SqL.of hp⟩, c, en, own, ok, m.bnd.e.imp fun d _ q v H1 own1 ok1 s1 b1 r1 => ?_⟩
  obtain ⟨p', xs', r', hσ', eo', hp', rp', rs', nd'⟩ := ok1.getOO hf hl
  have ep := sig_inj hσ hσ'
  subst ep
  split at q
  · rename_i hlen
    obtain ⟨os, r0, t0⟩ := r1
    obtain ⟨n0, rd⟩ := RO.toS hlen.2 r0
    refine ⟨p, xs', v, rfl, rfl, hp', by rw [RSP.len l rp']; exact hlen.1, q σ _ _ (ok1.wrOO hf hσ' rs' eo' nd' hp' t0 (r' := r' ++ os) (fun b hb => List.mem_append.mp hb) ?_ (RSP.snocE l rp' rd))⟩
    rw [eo'] at nd'
    rw [List.nodup_append]
    exact ⟨(List.nodup_cons.mp nd').2, n0, fun b hb b' hb' z => ok1.dt i b (by rw [eo']; exact List.mem_cons_of_mem _ hb) (t0 b (by rw [z]; exact hb'))⟩
  · exact q.elim
def sSubO (i : Nat) (j : Int) (ev : EvE) : EvS := fun en => bnd (getL i en) fun l => bnd (ev en) fun d => match ixN l.length j with
    | some n => if isLD d = true then .ok (.nx (en.set i (some (.lst (l.set n d))))) else .error .stuck
    | none => .error .stuck
theorem ixN_lt {n : Nat} {j : Int} {k : Nat} (h : ixN n j = some k) : k < n := by
  unfold ixN at h
  split at h
  · split at h
    · cases h; omega
    · cases h
  · split at h
    · cases h; omega
    · cases h
theorem pe_neg1 {j : Nat} {p pos : Pos} {i : Int} : PE X (.UnaryOp .USub (.Constant (.int i) j p) pos) (tC (.int (-i))) := by
  refine pe_imp (pe_un un_neg pe_int) ?_
  intro σ H Q h
  exact ⟨i, rfl, h⟩
theorem ds_subO (g : Gv G N sc X) (i : Nat) (j : Int) {x : Str} {e ix : Expr} {px spos pos : Pos} {ev : EvE} {dp : Bool} (he : PE X e (TEv G S.W F F1 (.uq dp) ev)) (hi : PE X ix (tC (.int j))) (hN : N[i]? = some x := by rfl) (hv : visB sc x = true := by rfl) (hx : nameB x = true := by rfl) (hf : F1[i]? = some (.dt (.o (.o .s))) := by rfl)
    (hs : swapsWithSole [.Subscript (.Name x px) ix spos] e pos.line X.env = pure false := by rfl) (hw : swappedStores [.Subscript (.Name x px) ix spos] e X.env = pure none := by rfl)
    (ha : ∀ v, assign (.Subscript (.Name x px) ix spos) X.env v = (do
      let ov ← holding [v] (eval (.Name x px) X.env)
      let iv ← holding [v, ov] (eval ix X.env)
      standAt spos
      holding [v, ov, iv] (setItem ov iv v)
      release [v, ov, iv] []) := by intro _; rfl) :
    PS X (.Assign [.Subscript (.Name x px) ix spos] e pos) (TSv G S F F1 (sSubO i j ev)) := by
  obtain ⟨h1, h2, _⟩ := nameB_d hx
  refine ps_imp (ps_asg he (pg_sub (pe_var (i := i) (by rw [g.nN]; exact hN) (visB_vis hv g.sc) h1 h2) hi set_list ha) hs hw rfl) ?_
  rintro D σ H ⟨c, en, own, ok, m⟩
  obtain ⟨l, hl, m⟩ := getL_ok m.bnd
  refine ⟨c, en, own, ok, m.bnd.e.imp fun d _ q v H1 own1 ok1 s1 b1 r1 => ?_⟩
  obtain ⟨p, xs, r, hσ, eo, hp, rp, rs, nd⟩ := ok1.getOO hf hl
  split at q
  · rename_i n hn
    split at q
    · rename_i hd
      obtain ⟨os, r0, t0⟩ := r1
      obtain ⟨n0, rd⟩ := RO.toS hd r0
      have nd' := nd
      rw [eo] at nd'
      obtain ⟨r', q1, q2, q3⟩ := RSP.setE l rp (ixN_lt hn) rd
      refine ⟨.ref p, hσ, p, xs, j, n, rfl, rfl, hp, by rw [RSP.len l rp]; exact hn, q σ _ _ (ok1.wrOO hf hσ rs eo nd hp t0 q2 (q3 (List.nodup_cons.mp nd').2 n0 fun b hb z => ok1.dt i b (by rw [eo]; exact List.mem_cons_of_mem _ z) (t0 b hb)) q1)⟩
    · exact q.elim
  · exact q.elim
def sAs0 (i : Nat) (ev : EvE) : EvS := fun en => bnd (ev en) fun d => match d with
  | .lst [] => .ok (.nx (en.set i (some d)))
  | _ => .error .stuck
theorem ds_as0 (g : Gv G N sc X) (hfn : ∀ x, X.fn x = true) (i : Nat) {x : Str} {e : Expr} {pos pos' : Pos} {ev : EvE} {dp : Bool} (he : PE X e (TEv G S.W F F1 (.uq dp) ev)) (hN : N[i]? = some x := by rfl) (hx : locB sc x = true := by rfl) (hz : zB F1 i = true := by rfl)
    (hs : swapsWith e (some (.Name x pos')) pos.line X.env = pure false := by rfl) : PS X (.Assign [.Name x pos'] e pos) (TSv G S F (F1.set i (.dt (.o (.o .s)))) (sAs0 i ev)) := by
  refine ps_imp (ps_set (by rw [g.nN]; exact g.nd) (by rw [g.nN]; exact hN) (locB_loc hx g.sc) he hs (.inl (hfn x))) ?_
  rintro D σ H ⟨c, en, own, ok, m⟩
  refine ⟨c, en, own, ok, m.bnd.e.imp fun d _ q v H1 own1 ok1 s1 b1 r1 => ?_⟩
  split at q
  · obtain ⟨os, r0, t0⟩ := r1
    obtain ⟨a, xs, e1, e2, e3, e4⟩ := r0
    have e4 : xs = [] := e4
    exact q _ H1 _ (ok1.putS (zB_of hz).1 t0 (by rw [e2]; exact List.nodup_cons.mpr ⟨List.not_mem_nil, List.nodup_nil⟩) (RS_oo.mpr ⟨a, xs, [], e1, e2, e3, by unfold RSP; exact ⟨e4, rfl⟩⟩))
  · exact q.elim
theorem ds_subM (g : Gv G N sc X) (i : Nat) {x : Str} {e ix : Expr} {px spos pos : Pos} {ek ev : EvE} (he : PE X e (TEv G S.W F F1 f ev)) (hi : PE X ix (TEv G S.W F1 F2 f2 ek)) (hN : N[i]? = some x := by rfl) (hv : visB sc x = true := by rfl) (hx : nameB x = true := by rfl) (hf0 : F1[i]? = some fl := by rfl) (hf : F2[i]? = some fl := by rfl) (hsh : fl.shp = some (.o .s) := by rfl) (hn : f.nb = true := by rfl)
    (hs : swapsWithSole [.Subscript (.Name x px) ix spos] e pos.line X.env = pure false := by rfl) (hw : swappedStores [.Subscript (.Name x px) ix spos] e X.env = pure none := by rfl)
    (ha : ∀ v, assign (.Subscript (.Name x px) ix spos) X.env v = (do
      let ov ← holding [v] (eval (.Name x px) X.env)
      let iv ← holding [v, ov] (eval ix X.env)
      standAt spos
      holding [v, ov, iv] (setItem ov iv v)
      release [v, ov, iv] []) := by intro _; rfl) :
    PS X (.Assign [.Subscript (.Name x px) ix spos] e pos) (TSv G S F F2 (sSub i ek ev)) := by
  obtain ⟨h1, h2, _⟩ := nameB_d hx
  refine ps_imp (ps_asg he (pg_sub (pe_var (i := i) (by rw [g.nN]; exact hN) (visB_vis hv g.sc) h1 h2) hi set_list ha) hs hw rfl) ?_
  rintro D σ H ⟨c, en, own, ok, m⟩
  obtain ⟨l, hl, m⟩ := getL_ok m.bnd
  refine ⟨c, en, own, ok, m.bnd.e.imp fun d _ q v H1 own1 ok1 s1 b1 r1 => ?_⟩
  obtain ⟨own1', ok1', k1, a1⟩ := RV.share (f := f) ok1 r1 hn
  obtain ⟨x0, e1, r0, _, _⟩ := ok1'.getM hf0 hsh hl
  obtain ⟨p, _, rfl, _⟩ := RS_ol.mp r0
  refine ⟨.ref p, e1, c, en, own1', ok1', q.bnd.e.imp fun kd hkd q v2 H2 own2 ok2 s2 b2 r2 => ?_⟩
  clear hkd
  obtain ⟨x0', e1', r0', nd', hv'⟩ := ok2.getM hf hsh hl
  rw [e1] at e1'
  cases e1'
  obtain ⟨p', xs', ep, eo, e3', e4'⟩ := RS_ol.mp r0'
  cases ep
  cases kd <;> first | exact q.elim | skip
  rename_i j
  dsimp only at q
  split at q
  · rename_i n hj
    have hw : R G (Av c (ow own2) false) H2 d v := R.up (Up.grow s2 b2 (by cases f.dp <;> rfl)) _ a1
    have po : p ∈ own2.sl i := by rw [eo]; exact List.mem_cons_self
    have eow : (⟨fun j => if j = i then [p] else own2.sl j, own2.tm⟩ : Own) = own2 := by
      have : (fun j => if j = i then [p] else own2.sl j) = own2.sl := funext fun j => by
        split
        · rename_i ej; rw [ej, eo]
        · rfl
      rw [this]
    refine ⟨p, xs', j, n, rfl, r2.int, e3', by rw [e4'.len]; exact hj, ?_⟩
    refine q σ _ ⟨fun j => if j = i then [p] else own2.sl j, own2.tm⟩ (ok2.chM hf hsh e1 (RS.wr _ r0') hv' (fun bb o nb e => ?_) (fun a ha => ?_) (by rw [← eo]; exact nd') (fun a ha => ?_) ?_)
    · rw [upd_ne (fun y => nb (by rw [y]; exact po))]; exact e
    · rw [eo] at ha
      rw [List.mem_singleton.mp ha, upd_same]; simp
    · rw [List.mem_singleton.mp ha, upd_same]
      exact ⟨by simp, .inl po⟩
    · rw [eow]
      have up : Up G.K (Av c (ow own2) false) (Av c (ow own2) false) H2 (upd H2 p (.lst (xs'.set n v))) := Up.write e3' trivial fun z => z.1 (.inl ⟨i, po⟩)
      exact RS_ol.mpr ⟨p, _, rfl, rfl, upd_same, RL.up up _ (RL.set n e4' hw)⟩
  · exact q.elim
theorem RSP.flS : ∀ (l : List D) {xs : List V} {os : List Addr}, RSP G A H l (.rep .s) xs os → flat.flatL l = true → RSP G A' H l (.rep .s) xs os
  | [], xs, r, h, _ => by unfold RSP at h ⊢; exact h
  | d :: m, xs, r, h, f => by
    have f' : flat d = true ∧ flat.flatL m = true := by simpa [flat.flatL] using f
    obtain ⟨y, ys, o1, o2, rfl, rfl, h1, h2⟩ := h
    exact ⟨y, ys, o1, o2, rfl, rfl, RS_s.mpr ⟨(RS_s.mp h1).1, R.flat d f'.1 (RS_s.mp h1).2⟩, RSP.flS m h2 f'.2⟩
def flRows : D → Bool
  | .lst m => m.all flatIn
  | _ => false
def eTupO (i : Nat) (ea : En → Rs (List D)) : EvE := fun en => match en[i]? with
  | some (some d) => if flRows d = true then bnd (ea en) fun ds => .ok (.tup (d :: ds)) else .error .stuck
  | _ => .error .stuck
theorem RSP.flR : ∀ (m : List D) {xs : List V} {r : List Addr}, RSP G A H m (.rep (.o .s)) xs r → m.all flatIn = true → RSP G A' H m (.rep (.o .s)) xs r
  | [], xs, r, h, _ => by unfold RSP at h ⊢; exact h
  | d :: m, xs, r, h, f => by
    rw [List.all_cons, Bool.and_eq_true] at f
    obtain ⟨y, ys, o1, o2, rfl, rfl, h1, h2⟩ := h
    refine ⟨y, ys, o1, o2, rfl, rfl, ?_, RSP.flR m h2 f.2⟩
    have f1 := f.1
    cases d with
    | lst l => obtain ⟨a, xs, e1, e2, e3, e4⟩ := RS_ol.mp h1; exact RS_ol.mpr ⟨a, xs, e1, e2, e3, RL.flat l f1 e4⟩
    | dct ks l => obtain ⟨a, kvs, e1, e2, e3, e4, e5⟩ := RS_od.mp h1; exact RS_od.mpr ⟨a, kvs, e1, e2, e3, e4, RL.flat l f1 e5⟩
    | tup l => obtain ⟨a, xs, e1, e2, e3⟩ := h1; exact ⟨a, xs, e1, e2, RSP.flS l e3 f1⟩
    | scr l => exact h1
    | non => exact h1
    | bl _ => exact h1
    | int _ => exact h1
    | str _ => exact h1
    | obj _ _ => cases f1
    | exc _ => cases f1
theorem dr_retS (g : Gv G N sc X) (i : Nat) {x : Str} {px pos pt : Pos} {n : Nat} {es : List Expr} {fs : List VF} {ea : En → Rs (List D)} (ha : PA X es (TAv G W F F1 fs ea)) (hN : N[i]? = some x := by rfl) (hv : visB sc x = true := by rfl) (hx : nameB x = true := by rfl) (hf : F[i]? = some (.dt (.o (.o .s))) := by rfl) (hf1 : F1[i]? = some (.dt (.o (.o .s))) := by rfl)
    (hn : nbL fs = true := by rfl) (hd : dpL fs = true := by rfl) (hl : fs.length + 1 ≤ sizeLine := by decide) (hs : starEach (Expr.Name x px :: es) X.env = (false, eval (Expr.Name x px) X.env) :: starEach es X.env := by rfl) :
    PSs X [.Return (some (.Tuple (.Name x px :: es) n pt)) pos] (TRv G W (some (.o (.o .s))) F (eTupO i ea)) := by
  obtain ⟨n1, n2, _⟩ := nameB_d hx
  refine pss_imp (pss_one (ps_ret (pe_tup (pa_cons (pe_var (pos := px) (i := i) (by rw [g.nN]; exact hN) (visB_vis hv g.sc) n1 n2) ha hs)))) ?_
  rintro D σ H ⟨c, en, own, ok, m⟩
  unfold eTupO at m
  split at m
  · rename_i d0 he
    split at m
    · rename_i hfl
      have s0 := ok.sl i
      unfold Slt at s0
      rw [hf, he] at s0
      obtain ⟨x0, hσ, r0, nd0⟩ := s0
      refine ⟨x0, hσ, c, en, own, ok, m.bnd.e.imp fun ds _ q vs H1 own1 ok1 s1 b1 r1 => ?_⟩
      have r1' := r1.rl hn
      have lv : vs.length = fs.length := r1.len.2
      refine ⟨by show (x0 :: vs).length ≤ _; rw [List.length_cons, lv]; exact hl, fun p hp => ?_⟩
      have s1' := ok1.sl i
      unfold Slt at s1'
      rw [hf1, he] at s1'
      obtain ⟨x1, hσ1, r2, nd2⟩ := s1'
      rw [hσ] at hσ1
      cases hσ1
      have sm : Same H1 (upd H1 p (.tup (x0 :: vs))) := same_new hp
      have cl : ∀ a, Av c (ow own1) true a → c.H0 a = none ∧ a ∉ own1.sl i := fun a z => ⟨z.2.1 rfl, fun y => z.1 (.inl ⟨i, y⟩)⟩
      refine q (.ref p) (upd H1 p (.tup (x0 :: vs))) (fun b o nb e => sm _ _ (ok1.same b o nb e)) (fun a o h => sm _ _ (ok1.lk a o h).1) ⟨p, x0, vs, d0, ds, own1.sl i, rfl, rfl, ?_, ⟨?_, nd2⟩, fun a ha => ?_, ?_⟩
      · exact SqT.of (by unfold upd; simp)
      · cases d0 <;> first | (cases hfl; done) | skip
        rename_i md
        obtain ⟨l, xs, r, e1, e2, e3, e4⟩ := RS_oo.mp r2
        exact RS.up (Up.same sm fun _ z => z) _ (RS_oo.mpr ⟨l, xs, r, e1, e2, e3, RSP.flR md e4 hfl⟩) fun a o _ h => sm _ _ h
      · rcases (ok1.nw i a ha).2 with z | z
        · exact z
        · rw [hf1] at z; exact z.1.elim
      · rw [hd] at r1'
        exact RL.up (Up.same sm cl) _ r1'
    · exact m.elim
  · exact m.elim
theorem ds_tuS (g : Gs G N sc k S.W X) (i : Nat) (is : List Nat) {es : List Expr} {e : Expr} {n : Nat} {pos tp : Pos} {ev : EvE} (he : PE X e (TNv G S.W (some sh) F F1 ev)) (ht : tgB N sc F1 (i :: is) es = true := by rfl) (hs : swapsWithSole [.Tuple es n tp] e pos.line X.env = pure false := by rfl)
    (hw : swappedStores [.Tuple es n tp] e X.env = pure none := by rfl) : PS X (.Assign [.Tuple es n tp] e pos) (TSv G S F (setF (F1.set i (.dt sh)) (.s true) is) (sTu (i :: is) ev)) := by
  obtain ⟨h1, h2, h3⟩ := dg_names g.g.nN g.g.nd g.g.sc (fun x _ => .inl (g.fn x)) ht
  refine ps_imp (ps_asg he (pg_tup (n := (i :: is).length) g.g.calm h1 h2 h3) hs hw rfl) ?_
  rintro D σ H ⟨c, en, own, ok, m⟩
  refine ⟨c, en, own, ok, m.bnd.e.imp fun d _ q v H1 H2 own1 ok1 s2 r2 => ?_⟩
  obtain ⟨t, x0, xs, d0, ds, os, rfl, rfl, hq, rp, hos, rr⟩ := r2
  dsimp only at q
  split at q
  · rename_i hl
    obtain ⟨rp', ndp⟩ : RS G (fun a => H1 a = none ∧ a ∉ os) H2 d0 sh x0 os ∧ os.Nodup := rp
    have ok2 := ok1.resL s2 hos fun a ha => by obtain ⟨o, e, _⟩ := RS.wr _ rp' a ha; rw [e]; simp
    have up : ∀ dp, Up G.K (fun b => H1 b = none ∧ b ∉ os) (Av c (ow (own1.resL os)) dp) H2 H2 := fun dp => Up.same (Same.refl H2) fun b z => ⟨fun y => by
      rcases y with y | y | y
      · exact ok1.trk (.inl y) z.1
      · exact ok1.trk (.inr y) z.1
      · exact z.2 y, fun _ => ok1.free z.1, .inl (ok1.free z.1)⟩
    have rv := RS.up (up false) _ rp' fun _ _ _ z => z
    refine ⟨t, x0 :: xs, rfl, by rw [g.g.K]; exact hq, by rw [List.length_cons, rr.len]; simpa using hl, ?_⟩
    cases es with
    | nil => cases ht
    | cons e1' es' =>
      cases e1' <;> first | (cases ht; done) | skip
      rename_i x p
      simp only [tgB, Bool.and_eq_true] at ht
      obtain ⟨z1, z2⟩ := zB_of ht.1.2
      have ok3 := ok2.putS (i := i) z1 (fun a ha => .inr ha) ndp rv
      have sb : ∀ a, ow ((own1.resL os).put i os) a → ow (own1.resL os) a := fun a h => (ow_put h).elim (fun h => .inr (.inr h)) id
      exact ⟨x0, xs, rfl, names_core (tgB_set (f := .dt sh) id ht.2) ok3 (RL.up (Up.sub sb rfl) _ (RL.up (up true) _ rr)) (by simpa using hl) fun σ' own' ok' _ => q σ' H2 own' ok'⟩
  · exact q.elim
end
end Pi
end
noncomputable section
namespace Lk54
open PySem PySem.Spec PyProof.Rows L2 Pi
abbrev g_NOUGHT : D := .tup [.int 0, .int 1]
abbrev g_ONE : D := .tup [.int 1, .int 1]
structure Fx (G : Gb) : Prop where
  g_NOUGHT : Glo G "NOUGHT" g_NOUGHT
  g_ONE : Glo G "ONE" g_ONE
  b_abs : G.mg "abs" = none
  b_all : G.mg "all" = none
  b_bool : G.mg "bool" = none
  b_enumerate : G.mg "enumerate" = none
  b_int : G.mg "int" = none
  b_isinstance : G.mg "isinstance" = none
  b_len : G.mg "len" = none
  b_list : G.mg "list" = none
  b_min : G.mg "min" = none
  b_range : G.mg "range" = none
  b_str : G.mg "str" = none
  b_tuple : G.mg "tuple" = none
  b_zip : G.mg "zip" = none
  x_NoFraction : Xcl G "NoFraction" 0
  k_Table : Ccl G 0 "Table" ["wide", "signs", "lines", "heads"]
def s__law_drawn : EvS := (sSeq (sAs 2 (eLst aNil))
  (sSeq (sAs 3 (eFl (eVar 0)))
  (sSeq (sFor (iEn (aCons (eVar 1) aNil)) (setT [4, 5])
 (sIf (tV (eB2 oGe (eVar 0) (eB2 oPow (eC (.int 10)) (eC (.int 18)))))
 (sSeq (sApp 2 (eB2 oMod (eVar 3) (eVar 5)))
  (sAs 3 (eB2 oDiv (eVar 3) (eVar 5))))
 (sSeq (sAs 6 (eB2 oMod (eB2 oAdd (eB2 oAdd (eB2 oAdd (eFl (eB2 oMul (eVar 0) (eC (.int 48271)))) (eB2 oMul (eFl (eB2 oMul (eVar 4) (eVar 4))) (eC (.int 69621)))) (eFl (eB2 oMul (eC (.int 7)) (eVar 4)))) (eC (.int 11))) (eC (.int 2147483647))))
  (sApp 2 (eB2 oMod (eB2 oDiv (eB2 oMod (eB2 oAdd (eB2 oMul (eVar 6) (eC (.int 39373))) (eB2 oMul (eB2 oDiv (eVar 6) (eC (.int 65536))) (eFl (eB2 oAdd (eVar 4) (eC (.int 3)))))) (eC (.int 2147483629))) (eC (.int 7))) (eVar 5))))))
  (sRet (eVar 2)))))
def f__law_drawn : List D → Rs D := runF 5 s__law_drawn
abbrev n__law_drawn : List Str := ["_law_cell", "_law_bases", "_law_row", "_law_rest", "_law_k", "_law_base", "_law_one"]
theorem d__law_drawn {G : Gb} (h : Fx G) (X : Cx) (W : WX) (g : Gs G n__law_drawn (defScope t__law_drawn) 0 W X) : PSs X (defBody t__law_drawn) (TSv G ⟨true, W, []⟩ (F0 2 5) [] s__law_drawn) :=
  (ds_cons (ds_as (F1 := [.s false, .s false, .n, .n, .n, .n, .n]) (f := (.uq true)) g.g.toGv g.fn 2 (de_lst da_nil))
  (ds_cons (ds_as (F1 := [.s false, .s false, .o true, .n, .n, .n, .n]) (f := (.uq true)) g.g.toGv g.fn 3 (de_fl (de_var g.g.toGv 0 (fl := .s false))))
  (ds_cons (ds_for (F := [.s false, .s false, .o true, .o true, .n, .n, .n]) (F1 := [.s false, .s false, .o true, .o true, .n, .n, .n]) (F2 := [.s false, .s false, .o true, .o true, .s false, .s false, .n]) (Fh := [.s false, .s false, .o true, .o true, .n, .n, .n]) g (di_enum g.g h.b_enumerate (da_cons (de_var g.g.toGv 1 (fl := .s false)) da_nil)) (tg_tup g.g g.fn [4, 5])
 (dss_wk (F := [.s false, .s false, .o true, .o true, .s false, .s false, .n]) (F1 := [.s false, .s false, .o true, .o true, .s false, .s false, .n]) (F2 := [.s false, .s false, .o true, .o true, .n, .n, .n]) (ds_one (ds_if (F := [.s false, .s false, .o true, .o true, .s false, .s false, .n]) (F1 := [.s false, .s false, .o true, .o true, .s false, .s false, .n]) (Fo := [.s false, .s false, .o true, .o true, .s false, .s false, .n]) (dt_cmp op_ge (ops_CI fun i j => decide (j ≤ i)) (de_var g.g.toGv 0 (fl := .s false)) (de_pow (de_int 10) (de_int 18)))
 (ds_cons (ds_app (F1 := [.s false, .s false, .o true, .o true, .s false, .s false, .n]) (f := (.uq true)) g.g.toGv 2 (dp0 := true) (dp := true) (de_mod (de_var g.g.toGv 3 (fl := .o true)) (de_var g.g.toGv 5 (fl := .s false))))
  (ds_one (ds_as (F1 := [.s false, .s false, .o true, .o true, .s false, .s false, .n]) (f := (.uq true)) g.g.toGv g.fn 3 (de_div (de_var g.g.toGv 3 (fl := .o true)) (de_var g.g.toGv 5 (fl := .s false))))))
 (dss_wk (F := [.s false, .s false, .o true, .o true, .s false, .s false, .n]) (F1 := [.s false, .s false, .o true, .o true, .s false, .s false, .o true]) (F2 := [.s false, .s false, .o true, .o true, .s false, .s false, .n]) (ds_cons (ds_as (F1 := [.s false, .s false, .o true, .o true, .s false, .s false, .n]) (f := (.uq true)) g.g.toGv g.fn 6 (de_mod (de_add (de_add (de_add (de_fl (de_mul (de_var g.g.toGv 0 (fl := .s false)) (de_int 48271))) (de_mul (de_fl (de_mul (de_var g.g.toGv 4 (fl := .s false)) (de_var g.g.toGv 4 (fl := .s false)))) (de_int 69621))) (de_fl (de_mul (de_int 7) (de_var g.g.toGv 4 (fl := .s false))))) (de_int 11)) (de_int 2147483647)))
  (ds_one (ds_app (F1 := [.s false, .s false, .o true, .o true, .s false, .s false, .o true]) (f := (.uq true)) g.g.toGv 2 (dp0 := true) (dp := true) (de_mod (de_div (de_mod (de_add (de_mul (de_var g.g.toGv 6 (fl := .o true)) (de_int 39373)) (de_mul (de_div (de_var g.g.toGv 6 (fl := .o true)) (de_int 65536)) (de_fl (de_add (de_var g.g.toGv 4 (fl := .s false)) (de_int 3))))) (de_int 2147483629)) (de_int 7)) (de_var g.g.toGv 5 (fl := .s false)))))))))))
  (ds_one (ds_ret (de_tk g.g.toGv 2 (fl := .o true)))))))
def s__law_cell_at : EvS := (sSeq (sIf (tV (eB2 oLt (eVar 1) (eBi oLen (aCons (eVar 0) aNil))))
 (sRet (eFl (eB2 oIx (eVar 0) (eVar 1))))
 sNil)
  (sRet (eC (.int 0))))
def f__law_cell_at : List D → Rs D := runF 0 s__law_cell_at
abbrev n__law_cell_at : List Str := ["_law_script", "_law_k"]
theorem d__law_cell_at {G : Gb} (h : Fx G) (X : Cx) (W : WX) (g : Gs G n__law_cell_at (defScope t__law_cell_at) 0 W X) : PSs X (defBody t__law_cell_at) (TSv G ⟨true, W, []⟩ (F0 2 0) [] s__law_cell_at) :=
  (ds_cons (ds_if (F := [.s false, .s false]) (F1 := [.s false, .s false]) (Fo := [.s false, .s false]) (dt_cmp op_lt (ops_CI fun i j => decide (i < j)) (de_var g.g.toGv 1 (fl := .s false)) (de_len g.g.toGv h.b_len (da_cons (de_var g.g.toGv 0 (fl := .s false)) da_nil)))
 (ds_one (ds_ret (de_fl (de_ix g.g.toGv (de_var g.g.toGv 0 (fl := .s false)) (de_var g.g.toGv 1 (fl := .s false))))))
 ds_nil)
  (ds_one (ds_ret (de_int 0))))
def s__law_low : EvS := (sSeq (sAs 2 (eBi oAbs (aCons (eVar 0) aNil)))
  (sSeq (sAs 3 (eBi oAbs (aCons (eVar 1) aNil)))
  (sSeq (sWh (tV (eB2 oGt (eVar 3) (eC (.int 0))))
 (sPar 2 3 (eFl (eVar 3)) (eB2 oMod (eVar 2) (eVar 3))))
  (sSeq (sIf (tV (eB2 oLt (eVar 1) (eC (.int 0))))
 (sAs 2 (eU1 oNeg (eVar 2)))
 sNil)
  (sRet (eTup (aCons (eB2 oDiv (eVar 0) (eVar 2)) (aCons (eB2 oDiv (eVar 1) (eVar 2)) aNil))))))))
def f__law_low : List D → Rs D := runF 2 s__law_low
abbrev n__law_low : List Str := ["_law_top", "_law_bottom", "_law_one", "_law_other"]
theorem d__law_low {G : Gb} (h : Fx G) (X : Cx) (W : WX) (g : Gs G n__law_low (defScope t__law_low) 0 W X) : PSs X (defBody t__law_low) (TSv G ⟨true, W, []⟩ (F0 2 2) [] s__law_low) :=
  (ds_cons (ds_as (F1 := [.s false, .s false, .n, .n]) (f := (.uq true)) g.g.toGv g.fn 2 (de_abs g.g.toGv h.b_abs (da_cons (de_var g.g.toGv 0 (fl := .s false)) da_nil)))
  (ds_cons (ds_as (F1 := [.s false, .s false, .o true, .n]) (f := (.uq true)) g.g.toGv g.fn 3 (de_abs g.g.toGv h.b_abs (da_cons (de_var g.g.toGv 1 (fl := .s false)) da_nil)))
  (ds_cons (ds_pre (F1 := [.s false, .s false, .s true, .s true]) (ds_while (F := [.s false, .s false, .s true, .s true]) g.g (dt_cmp op_gt (ops_CI fun i j => decide (j < i)) (de_var g.g.toGv 3 (fl := .s true)) (de_int 0))
 (ds_one (ds_par (F1 := [.s false, .s false, .s true, .s true]) (F2 := [.s false, .s false, .s true, .s true]) (f1 := (.uq true)) (f2 := (.uq true)) g 2 3 (de_fl (de_var g.g.toGv 3 (fl := .s true))) (de_mod (de_var g.g.toGv 2 (fl := .s true)) (de_var g.g.toGv 3 (fl := .s true)))))))
  (ds_cons (ds_if (F := [.s false, .s false, .s true, .s true]) (F1 := [.s false, .s false, .s true, .s true]) (Fo := [.s false, .s false, .s true, .s true]) (dt_cmp op_lt (ops_CI fun i j => decide (i < j)) (de_var g.g.toGv 1 (fl := .s false)) (de_int 0))
 (dss_wk (F := [.s false, .s false, .s true, .s true]) (F1 := [.s false, .s false, .o true, .s true]) (F2 := [.s false, .s false, .s true, .s true]) (ds_one (ds_as (F1 := [.s false, .s false, .s true, .s true]) (f := (.uq true)) g.g.toGv g.fn 2 (de_neg (de_var g.g.toGv 2 (fl := .s true))))))
 ds_nil)
  (ds_one (ds_ret (de_tup (da_cons (de_div (de_var g.g.toGv 0 (fl := .s false)) (de_var g.g.toGv 2 (fl := .s true))) (da_cons (de_div (de_var g.g.toGv 1 (fl := .s false)) (de_var g.g.toGv 2 (fl := .s true))) da_nil)))))))))
def s__law_numbers : EvS := (sSeq (sIf (tV (eVar 2))
 (sSeq (sAs 3 (eCall f__law_drawn (aCons (eVar 0) (aCons (eB2 oMul (eLst (aCons (eB2 oAdd (eB2 oMul (eC (.int 2)) (eB2 oPow (eC (.int 10)) (eC (.int 9)))) (eC (.int 1))) (aCons (eC (.int 60)) aNil))) (eVar 1)) aNil))))
  (sRet (eLc [5] (iRn (aCons (eVar 1) aNil)) (set1 5) (fun _ => .ok true) (eCall f__law_low (aCons (eB2 oSub (eB2 oIx (eVar 3) (eFl (eB2 oMul (eC (.int 2)) (eVar 5)))) (eB2 oPow (eC (.int 10)) (eC (.int 9)))) (aCons (eFl (eB2 oAdd (eC (.int 1)) (eB2 oIx (eVar 3) (eB2 oAdd (eFl (eB2 oMul (eC (.int 2)) (eVar 5))) (eC (.int 1)))))) aNil))))))
 sNil)
  (sSeq (sAs 3 (eCall f__law_drawn (aCons (eVar 0) (aCons (eB2 oMul (eLst (aCons (eC (.int 72)) aNil)) (eVar 1)) aNil))))
  (sRet (eLc [4] (iO 3) (set1 4) (fun _ => .ok true) (eCall f__law_low (aCons (eB2 oMul (eB2 oSub (eB2 oMod (eVar 4) (eC (.int 9))) (eC (.int 3))) (eBi oInt (aCons (eB2 oLt (eVar 4) (eC (.int 54))) aNil))) (aCons (eB2 oAdd (eC (.int 1)) (eB2 oMod (eB2 oDiv (eVar 4) (eC (.int 9))) (eC (.int 4)))) aNil)))))))
def f__law_numbers : List D → Rs D := runF 3 s__law_numbers
abbrev n__law_numbers : List Str := ["_law_cell", "_law_many", "_law_wide", "_law_row", "_law_one", "_law_k"]
theorem d__law_numbers {G : Gb} (h : Fx G) (c__law_drawn : Cal G 1 "_law_drawn" true 2 f__law_drawn) (c__law_low : Cal G 1 "_law_low" true 2 f__law_low) (X : Cx) (W : WX) (g : Gs G n__law_numbers (defScope t__law_numbers) 1 W X) : PSs X (defBody t__law_numbers) (TSv G ⟨true, W, []⟩ (F0 3 3) [] s__law_numbers) :=
  (ds_cons (ds_if (F := [.s false, .s false, .s false, .n, .n, .n]) (F1 := [.s false, .s false, .s false, .n, .n, .n]) (Fo := [.s false, .s false, .s false, .n, .n, .n]) (dt_val (de_var g.g.toGv 2 (fl := .s false)))
 (ds_cons (ds_as (F1 := [.s false, .s false, .s false, .n, .n, .n]) (f := (.uq true)) g.g.toGv g.fn 3 (de_call g.g c__law_drawn (da_cons (de_var g.g.toGv 0 (fl := .s false)) (da_cons (de_mul (de_lst (da_cons (de_add (de_mul (de_int 2) (de_pow (de_int 10) (de_int 9))) (de_int 1)) (da_cons (de_int 60) da_nil))) (de_var g.g.toGv 1 (fl := .s false))) da_nil))))
  (ds_one (ds_ret (de_lc (F1 := [.s false, .s false, .s false, .o true, .n, .n]) (F2 := [.s false, .s false, .s false, .z, .n, .s false]) (F3 := [.s false, .s false, .s false, .z, .n, .s false]) (F4 := [.s false, .s false, .s false, .z, .n, .s false]) (f := (.uq true)) g.g [("_law_k", 5)] (di_range1 g.g h.b_range (da_cons (de_var g.g.toGv 1 (fl := .s false)) da_nil)) (blk_by (by decide +kernel)) (fun X' gb fb => (tg_nameB gb.toGv 5)) (fun X' gb => dts_nil) (fun X' gb => (de_call gb c__law_low (da_cons (de_sub (de_ix gb.toGv (de_var gb.toGv 3 (fl := .z)) (de_fl (de_mul (de_int 2) (de_var gb.toGv 5 (fl := .s false))))) (de_pow (de_int 10) (de_int 9))) (da_cons (de_fl (de_add (de_int 1) (de_ix gb.toGv (de_var gb.toGv 3 (fl := .z)) (de_add (de_fl (de_mul (de_int 2) (de_var gb.toGv 5 (fl := .s false)))) (de_int 1))))) da_nil))))))))
 ds_nil)
  (ds_cons (ds_as (F1 := [.s false, .s false, .s false, .n, .n, .n]) (f := (.uq true)) g.g.toGv g.fn 3 (de_call g.g c__law_drawn (da_cons (de_var g.g.toGv 0 (fl := .s false)) (da_cons (de_mul (de_lst (da_cons (de_int 72) da_nil)) (de_var g.g.toGv 1 (fl := .s false))) da_nil))))
  (ds_one (ds_ret (de_lcO (F := [.s false, .s false, .s false, .o true, .n, .n]) (F2 := [.s false, .s false, .s false, .z, .s false, .n]) (F3 := [.s false, .s false, .s false, .z, .s false, .n]) (F4 := [.s false, .s false, .s false, .z, .s false, .n]) (f := (.uq true)) (dpi := true) g.g 3 [("_law_one", 4)] (blk_by (by decide +kernel)) (fun X' gb fb => (tg_nameB gb.toGv 4)) (fun X' gb => dts_nil) (fun X' gb => (de_call gb c__law_low (da_cons (de_mul (de_sub (de_mod (de_var gb.toGv 4 (fl := .s false)) (de_int 9)) (de_int 3)) (de_int1 gb.toGv h.b_int (da_cons (de_cmp op_lt (ops_CI fun i j => decide (i < j)) (de_var gb.toGv 4 (fl := .s false)) (de_int 54)) da_nil))) (da_cons (de_add (de_int 1) (de_mod (de_div (de_var gb.toGv 4 (fl := .s false)) (de_int 9)) (de_int 4))) da_nil)))))))))
def s__law_plus : EvS := (sRet (eCall f__law_low (aCons (eB2 oAdd (eFl (eB2 oMul (eB2 oIx (eVar 0) (eC (.int 0))) (eB2 oIx (eVar 1) (eC (.int 1))))) (eFl (eB2 oMul (eB2 oIx (eVar 1) (eC (.int 0))) (eB2 oIx (eVar 0) (eC (.int 1)))))) (aCons (eFl (eB2 oMul (eB2 oIx (eVar 0) (eC (.int 1))) (eB2 oIx (eVar 1) (eC (.int 1))))) aNil))))
def f__law_plus : List D → Rs D := runF 0 s__law_plus
abbrev n__law_plus : List Str := ["_law_one", "_law_other"]
theorem d__law_plus {G : Gb} (h : Fx G) (c__law_low : Cal G 1 "_law_low" true 2 f__law_low) (X : Cx) (W : WX) (g : Gs G n__law_plus (defScope t__law_plus) 1 W X) : PSs X (defBody t__law_plus) (TSv G ⟨true, W, []⟩ (F0 2 0) [] s__law_plus) :=
  (ds_one (ds_ret (de_call g.g c__law_low (da_cons (de_add (de_fl (de_mul (de_ix g.g.toGv (de_var g.g.toGv 0 (fl := .s false)) (de_int 0)) (de_ix g.g.toGv (de_var g.g.toGv 1 (fl := .s false)) (de_int 1)))) (de_fl (de_mul (de_ix g.g.toGv (de_var g.g.toGv 1 (fl := .s false)) (de_int 0)) (de_ix g.g.toGv (de_var g.g.toGv 0 (fl := .s false)) (de_int 1))))) (da_cons (de_fl (de_mul (de_ix g.g.toGv (de_var g.g.toGv 0 (fl := .s false)) (de_int 1)) (de_ix g.g.toGv (de_var g.g.toGv 1 (fl := .s false)) (de_int 1)))) da_nil)))))
def s__law_table : EvE := (rCons (sAs 1 (eCall f__law_drawn (aCons (eCall f__law_cell_at (aCons (eVar 0) (aCons (eC (.int 0)) aNil))) (aCons (eLst (aCons (eC (.int 6)) (aCons (eC (.int 7)) (aCons (eC (.int 8)) aNil)))) aNil))))
  (rCons (sAs 2 (eB2 oEq (eB2 oIx (eVar 1) (eC (.int 2))) (eC (.int 3))))
  (rCons (sAs 3 (eB2 oAdd (eC (.int 1)) (eB2 oIx (eVar 1) (eC (.int 1)))))
  (rCons (sAs0 4 (eLst aNil))
  (rCons (sFor (iRn (aCons (eB2 oIx (eLst (aCons (eB2 oIx (eVar 1) (eC (.int 0))) (aCons (eBi oMin (aCons (eB2 oIx (eVar 1) (eC (.int 0))) (aCons (eC (.int 2)) aNil))) aNil))) (eBi oInt (aCons (eVar 2) aNil))) aNil)) (set1 5)
 (sAppO 4 (eCall f__law_numbers (aCons (eCall f__law_cell_at (aCons (eVar 0) (aCons (eB2 oAdd (eC (.int 1)) (eVar 5)) aNil))) (aCons (eVar 3) (aCons (eVar 2) aNil))))))
  (rCons (sIf (tAn (tV (eB2 oEq (eB2 oIx (eVar 1) (eC (.int 2))) (eC (.int 5)))) (tV (eB2 oGt (eBi oLen (aCons (eVar 4) aNil)) (eC (.int 1)))))
 (sSubO 4 (-1) (eFi (eBi oList (aCons (eB2 oIx (eVar 4) (eC (.int 0))) aNil))))
 sNil)
  (rCons (sIf (tAn (tV (eB2 oEq (eB2 oIx (eVar 1) (eC (.int 2))) (eC (.int 6)))) (tV (eB2 oGt (eBi oLen (aCons (eVar 4) aNil)) (eC (.int 2)))))
 (sSubO 4 (-1) (eLc [6, 7] (iZp (aCons (eB2 oIx (eVar 4) (eC (.int 0))) (aCons (eB2 oIx (eVar 4) (eC (.int 1))) aNil))) (setT [6, 7]) (fun _ => .ok true) (eCall f__law_plus (aCons (eVar 6) (aCons (eVar 7) aNil)))))
 sNil)
  (eTupO 4 (aCons (eVar 3) (aCons (eVar 2) aNil))))))))))
def f__law_table : List D → Rs D := runT 7 s__law_table
abbrev n__law_table : List Str := ["_law_script", "_law_head", "_law_wide", "_law_many", "_law_rows", "_law_k", "_law_one", "_law_other"]
theorem d__law_table {G : Gb} (h : Fx G) (c__law_drawn : Cal G 1 "_law_drawn" true 2 f__law_drawn) (c__law_cell_at : Cal G 1 "_law_cell_at" true 2 f__law_cell_at) (c__law_numbers : Cal G 2 "_law_numbers" true 3 f__law_numbers) (c__law_plus : Cal G 2 "_law_plus" true 2 f__law_plus) (X : Cx) (W : WX) (g : Gs G n__law_table (defScope t__law_table) 2 W X) : PSs X (defBody t__law_table) (TRv G W (some (.o (.o .s))) (F0 1 7) s__law_table) :=
  (dr_cons (F1 := [.s false, .o true, .n, .n, .n, .n, .n, .n]) (ds_as (F1 := [.s false, .n, .n, .n, .n, .n, .n, .n]) (f := (.uq true)) g.g.toGv g.fn 1 (de_call g.g c__law_drawn (da_cons (de_call g.g c__law_cell_at (da_cons (de_var g.g.toGv 0 (fl := .s false)) (da_cons (de_int 0) da_nil))) (da_cons (de_lst (da_cons (de_int 6) (da_cons (de_int 7) (da_cons (de_int 8) da_nil)))) da_nil))))
  (dr_cons (F1 := [.s false, .o true, .o true, .n, .n, .n, .n, .n]) (ds_as (F1 := [.s false, .o true, .n, .n, .n, .n, .n, .n]) (f := (.uq true)) g.g.toGv g.fn 2 (de_cmp (opr_eqG g.g.toGv) ops_eq (de_ix g.g.toGv (de_var g.g.toGv 1 (fl := .o true)) (de_int 2)) (de_int 3)))
  (dr_cons (F1 := [.s false, .o true, .o true, .o true, .n, .n, .n, .n]) (ds_as (F1 := [.s false, .o true, .o true, .n, .n, .n, .n, .n]) (f := (.uq true)) g.g.toGv g.fn 3 (de_add (de_int 1) (de_ix g.g.toGv (de_var g.g.toGv 1 (fl := .o true)) (de_int 1))))
  (dr_cons (F1 := [.s false, .o true, .o true, .o true, (.dt (.o (.o .s))), .n, .n, .n]) (ds_as0 (F := [.s false, .o true, .o true, .o true, .n, .n, .n, .n]) (F1 := [.s false, .o true, .o true, .o true, .n, .n, .n, .n]) (dp := true) g.g.toGv g.fn 4 (de_lst da_nil))
  (dr_cons (F1 := [.s false, .o true, .o true, .o true, (.dt (.o (.o .s))), .n, .n, .n]) (ds_for (F := [.s false, .o true, .o true, .o true, (.dt (.o (.o .s))), .n, .n, .n]) (F1 := [.s false, .o true, .o true, .o true, (.dt (.o (.o .s))), .n, .n, .n]) (F2 := [.s false, .o true, .o true, .o true, (.dt (.o (.o .s))), .s true, .n, .n]) (Fh := [.s false, .o true, .o true, .o true, (.dt (.o (.o .s))), .n, .n, .n]) g (di_range1 g.g h.b_range (da_cons (de_ix g.g.toGv (de_lst (da_cons (de_ix g.g.toGv (de_var g.g.toGv 1 (fl := .o true)) (de_int 0)) (da_cons (de_min g.g h.b_min (da_cons (de_ix g.g.toGv (de_var g.g.toGv 1 (fl := .o true)) (de_int 0)) (da_cons (de_int 2) da_nil))) da_nil))) (de_int1 g.g.toGv h.b_int (da_cons (de_var g.g.toGv 2 (fl := .o true)) da_nil))) da_nil)) (tg_name g.g.toGv g.fn 5)
 (dss_wk (F := [.s false, .o true, .o true, .o true, (.dt (.o (.o .s))), .s true, .n, .n]) (F1 := [.s false, .o true, .o true, .o true, (.dt (.o (.o .s))), .s true, .n, .n]) (F2 := [.s false, .o true, .o true, .o true, (.dt (.o (.o .s))), .n, .n, .n]) (ds_one (ds_appO (F := [.s false, .o true, .o true, .o true, (.dt (.o (.o .s))), .s true, .n, .n]) (F1 := [.s false, .o true, .o true, .o true, (.dt (.o (.o .s))), .s true, .n, .n]) (dp := true) g.g.toGv 4 (de_call g.g c__law_numbers (da_cons (de_call g.g c__law_cell_at (da_cons (de_var g.g.toGv 0 (fl := .s false)) (da_cons (de_add (de_int 1) (de_var g.g.toGv 5 (fl := .s true))) da_nil))) (da_cons (de_var g.g.toGv 3 (fl := .o true)) (da_cons (de_var g.g.toGv 2 (fl := .o true)) da_nil))))))))
  (dr_cons (F1 := [.s false, .o true, .o true, .o true, (.dt (.o (.o .s))), .n, .n, .n]) (ds_if (F := [.s false, .o true, .o true, .o true, (.dt (.o (.o .s))), .n, .n, .n]) (F1 := [.s false, .o true, .o true, .o true, (.dt (.o (.o .s))), .n, .n, .n]) (Fo := [.s false, .o true, .o true, .o true, (.dt (.o (.o .s))), .n, .n, .n]) (dt_view (F' := [.s false, .o true, .o true, .o true, .s false, .n, .n, .n]) (F1 := [.s false, .o true, .o true, .o true, .s false, .n, .n, .n]) (dt_w (dw_and (dt_cmp (opr_eqG g.g.toGv) ops_eq (de_ix g.g.toGv (de_var g.g.toGv 1 (fl := .o true)) (de_int 2)) (de_int 5)) (dw_and1 (dt_cmp op_gt (ops_CI fun i j => decide (j < i)) (de_len g.g.toGv h.b_len (da_cons (de_var g.g.toGv 4 (fl := .s false)) da_nil)) (de_int 1))))))
 (ds_one (ds_subO (F := [.s false, .o true, .o true, .o true, (.dt (.o (.o .s))), .n, .n, .n]) (F1 := [.s false, .o true, .o true, .o true, (.dt (.o (.o .s))), .n, .n, .n]) (dp := true) g.g.toGv 4 (-1) (de_new (F := [.s false, .o true, .o true, .o true, (.dt (.o (.o .s))), .n, .n, .n]) (F1 := [.s false, .s false, .s false, .s false, .s false, .n, .n, .n]) (de_fi (de_list g.g h.b_list (da_cons (de_ix g.g.toGv (de_var g.g.toGv 4 (fl := .s false)) (de_int 0)) da_nil)))) pe_neg1))
 ds_nil)
  (dr_cons (F1 := [.s false, .o true, .o true, .o true, (.dt (.o (.o .s))), .n, .n, .n]) (ds_if (F := [.s false, .o true, .o true, .o true, (.dt (.o (.o .s))), .n, .n, .n]) (F1 := [.s false, .o true, .o true, .o true, (.dt (.o (.o .s))), .n, .n, .n]) (Fo := [.s false, .o true, .o true, .o true, (.dt (.o (.o .s))), .n, .n, .n]) (dt_view (F' := [.s false, .o true, .o true, .o true, .s false, .n, .n, .n]) (F1 := [.s false, .o true, .o true, .o true, .s false, .n, .n, .n]) (dt_w (dw_and (dt_cmp (opr_eqG g.g.toGv) ops_eq (de_ix g.g.toGv (de_var g.g.toGv 1 (fl := .o true)) (de_int 2)) (de_int 6)) (dw_and1 (dt_cmp op_gt (ops_CI fun i j => decide (j < i)) (de_len g.g.toGv h.b_len (da_cons (de_var g.g.toGv 4 (fl := .s false)) da_nil)) (de_int 2))))))
 (ds_one (ds_subO (F := [.s false, .o true, .o true, .o true, (.dt (.o (.o .s))), .n, .n, .n]) (F1 := [.s false, .o true, .o true, .o true, (.dt (.o (.o .s))), .n, .n, .n]) (dp := true) g.g.toGv 4 (-1) (de_new (F := [.s false, .o true, .o true, .o true, (.dt (.o (.o .s))), .n, .n, .n]) (F1 := [.s false, .s false, .s false, .s false, .s false, .n, .n, .n]) (de_lc (F1 := [.s false, .s false, .s false, .s false, .s false, .n, .n, .n]) (F2 := [.s false, .s false, .s false, .s false, .s false, .n, .s false, .s false]) (F3 := [.s false, .s false, .s false, .s false, .s false, .n, .s false, .s false]) (F4 := [.s false, .s false, .s false, .s false, .s false, .n, .s false, .s false]) (f := (.uq true)) g.g [("_law_one", 6), ("_law_other", 7)] (di_zip g.g h.b_zip (da_cons (de_ix g.g.toGv (de_var g.g.toGv 4 (fl := .s false)) (de_int 0)) (da_cons (de_ix g.g.toGv (de_var g.g.toGv 4 (fl := .s false)) (de_int 1)) da_nil))) (blk_by (by decide +kernel)) (fun X' gb fb => (tg_tupL gb [6, 7])) (fun X' gb => dts_nil) (fun X' gb => (de_call gb c__law_plus (da_cons (de_var gb.toGv 6 (fl := .s false)) (da_cons (de_var gb.toGv 7 (fl := .s false)) da_nil)))))) pe_neg1))
 ds_nil)
  (dr_retS (F := [.s false, .o true, .o true, .o true, (.dt (.o (.o .s))), .n, .n, .n]) (F1 := [.s false, .o true, .s true, .s true, (.dt (.o (.o .s))), .n, .n, .n]) g.g.toGv 4 (da_cons (de_mv g.g.toGv 3 (fl := .o true)) (da_cons (de_mv g.g.toGv 2 (fl := .o true)) da_nil))))))))))
def s__law_at_least : EvS := (sRet (eLc [1] (iL (eVar 0)) (set1 1) (fun _ => .ok true) (eFl (eTup (aCons (eBi oAbs (aCons (eB2 oIx (eVar 1) (eC (.int 0))) aNil)) (aCons (eB2 oIx (eVar 1) (eC (.int 1))) aNil))))))
def f__law_at_least : List D → Rs D := runF 1 s__law_at_least
abbrev n__law_at_least : List Str := ["_law_some", "_law_one"]
theorem d__law_at_least {G : Gb} (h : Fx G) (X : Cx) (W : WX) (g : Gs G n__law_at_least (defScope t__law_at_least) 0 W X) : PSs X (defBody t__law_at_least) (TSv G ⟨true, W, []⟩ (F0 1 1) [] s__law_at_least) :=
  (ds_one (ds_ret (de_lc (F1 := [.s false, .n]) (F2 := [.s false, .s false]) (F3 := [.s false, .s false]) (F4 := [.s false, .s false]) (f := (.uq true)) g.g [("_law_one", 1)] (di_list g.g (de_var g.g.toGv 0 (fl := .s false))) (blk_by (by decide +kernel)) (fun X' gb fb => (tg_nameB gb.toGv 1)) (fun X' gb => dts_nil) (fun X' gb => (de_fl (de_tup (da_cons (de_abs gb.toGv h.b_abs (da_cons (de_ix gb.toGv (de_var gb.toGv 1 (fl := .s false)) (de_int 0)) da_nil)) (da_cons (de_ix gb.toGv (de_var gb.toGv 1 (fl := .s false)) (de_int 1)) da_nil))))))))
def s__law_total : EvS := (sSeq (sAs 1 (eTup (aCons (eC (.int 0)) (aCons (eC (.int 1)) aNil))))
  (sSeq (sFor (iL (eVar 0)) (set1 2)
 (sAs 1 (eCall f__law_plus (aCons (eVar 1) (aCons (eVar 2) aNil)))))
  (sRet (eVar 1))))
def f__law_total : List D → Rs D := runF 2 s__law_total
abbrev n__law_total : List Str := ["_law_some", "_law_total_here", "_law_one"]
theorem d__law_total {G : Gb} (h : Fx G) (c__law_plus : Cal G 2 "_law_plus" true 2 f__law_plus) (X : Cx) (W : WX) (g : Gs G n__law_total (defScope t__law_total) 2 W X) : PSs X (defBody t__law_total) (TSv G ⟨true, W, []⟩ (F0 1 2) [] s__law_total) :=
  (ds_cons (ds_as (F1 := [.s false, .n, .n]) (f := (.uq true)) g.g.toGv g.fn 1 (de_tup (da_cons (de_int 0) (da_cons (de_int 1) da_nil))))
  (ds_cons (ds_for (F := [.s false, .o true, .n]) (F1 := [.s false, .o true, .n]) (F2 := [.s false, .o true, .s false]) (Fh := [.s false, .o true, .n]) g (di_list g.g (de_var g.g.toGv 0 (fl := .s false))) (tg_name g.g.toGv g.fn 2)
 (dss_wk (F := [.s false, .o true, .s false]) (F1 := [.s false, .o true, .s false]) (F2 := [.s false, .o true, .n]) (ds_one (ds_as (F1 := [.s false, .o true, .s false]) (f := (.uq true)) g.g.toGv g.fn 1 (de_call g.g c__law_plus (da_cons (de_var g.g.toGv 1 (fl := .o true)) (da_cons (de_var g.g.toGv 2 (fl := .s false)) da_nil)))))))
  (ds_one (ds_ret (de_tk g.g.toGv 1 (fl := .o true))))))
def s__law_times : EvS := (sRet (eCall f__law_low (aCons (eFl (eB2 oMul (eB2 oIx (eVar 0) (eC (.int 0))) (eB2 oIx (eVar 1) (eC (.int 0))))) (aCons (eFl (eB2 oMul (eB2 oIx (eVar 0) (eC (.int 1))) (eB2 oIx (eVar 1) (eC (.int 1))))) aNil))))
def f__law_times : List D → Rs D := runF 0 s__law_times
abbrev n__law_times : List Str := ["_law_one", "_law_other"]
theorem d__law_times {G : Gb} (h : Fx G) (c__law_low : Cal G 1 "_law_low" true 2 f__law_low) (X : Cx) (W : WX) (g : Gs G n__law_times (defScope t__law_times) 1 W X) : PSs X (defBody t__law_times) (TSv G ⟨true, W, []⟩ (F0 2 0) [] s__law_times) :=
  (ds_one (ds_ret (de_call g.g c__law_low (da_cons (de_fl (de_mul (de_ix g.g.toGv (de_var g.g.toGv 0 (fl := .s false)) (de_int 0)) (de_ix g.g.toGv (de_var g.g.toGv 1 (fl := .s false)) (de_int 0)))) (da_cons (de_fl (de_mul (de_ix g.g.toGv (de_var g.g.toGv 0 (fl := .s false)) (de_int 1)) (de_ix g.g.toGv (de_var g.g.toGv 1 (fl := .s false)) (de_int 1)))) da_nil)))))
def s__law_dot : EvS := (sRet (eCall f__law_total (aCons (eLc [2, 3] (iZp (aCons (eVar 0) (aCons (eVar 1) aNil))) (setT [2, 3]) (fun _ => .ok true) (eCall f__law_times (aCons (eVar 2) (aCons (eVar 3) aNil)))) aNil)))
def f__law_dot : List D → Rs D := runF 2 s__law_dot
abbrev n__law_dot : List Str := ["_law_one", "_law_other", "_law_first", "_law_second"]
theorem d__law_dot {G : Gb} (h : Fx G) (c__law_total : Cal G 3 "_law_total" true 1 f__law_total) (c__law_times : Cal G 2 "_law_times" true 2 f__law_times) (X : Cx) (W : WX) (g : Gs G n__law_dot (defScope t__law_dot) 3 W X) : PSs X (defBody t__law_dot) (TSv G ⟨true, W, []⟩ (F0 2 2) [] s__law_dot) :=
  (ds_one (ds_ret (de_call g.g c__law_total (da_cons (de_lc (F1 := [.s false, .s false, .n, .n]) (F2 := [.s false, .s false, .s false, .s false]) (F3 := [.s false, .s false, .s false, .s false]) (F4 := [.s false, .s false, .s false, .s false]) (f := (.uq true)) g.g [("_law_first", 2), ("_law_second", 3)] (di_zip g.g h.b_zip (da_cons (de_var g.g.toGv 0 (fl := .s false)) (da_cons (de_var g.g.toGv 1 (fl := .s false)) da_nil))) (blk_by (by decide +kernel)) (fun X' gb fb => (tg_tupL gb [2, 3])) (fun X' gb => dts_nil) (fun X' gb => (de_call gb c__law_times (da_cons (de_var gb.toGv 2 (fl := .s false)) (da_cons (de_var gb.toGv 3 (fl := .s false)) da_nil))))) da_nil))))
def s__law_less : EvS := (sRet (eCall f__law_low (aCons (eB2 oSub (eFl (eB2 oMul (eB2 oIx (eVar 0) (eC (.int 0))) (eB2 oIx (eVar 1) (eC (.int 1))))) (eFl (eB2 oMul (eB2 oIx (eVar 1) (eC (.int 0))) (eB2 oIx (eVar 0) (eC (.int 1)))))) (aCons (eFl (eB2 oMul (eB2 oIx (eVar 0) (eC (.int 1))) (eB2 oIx (eVar 1) (eC (.int 1))))) aNil))))
def f__law_less : List D → Rs D := runF 0 s__law_less
abbrev n__law_less : List Str := ["_law_one", "_law_other"]
theorem d__law_less {G : Gb} (h : Fx G) (c__law_low : Cal G 1 "_law_low" true 2 f__law_low) (X : Cx) (W : WX) (g : Gs G n__law_less (defScope t__law_less) 1 W X) : PSs X (defBody t__law_less) (TSv G ⟨true, W, []⟩ (F0 2 0) [] s__law_less) :=
  (ds_one (ds_ret (de_call g.g c__law_low (da_cons (de_sub (de_fl (de_mul (de_ix g.g.toGv (de_var g.g.toGv 0 (fl := .s false)) (de_int 0)) (de_ix g.g.toGv (de_var g.g.toGv 1 (fl := .s false)) (de_int 1)))) (de_fl (de_mul (de_ix g.g.toGv (de_var g.g.toGv 1 (fl := .s false)) (de_int 0)) (de_ix g.g.toGv (de_var g.g.toGv 0 (fl := .s false)) (de_int 1))))) (da_cons (de_fl (de_mul (de_ix g.g.toGv (de_var g.g.toGv 0 (fl := .s false)) (de_int 1)) (de_ix g.g.toGv (de_var g.g.toGv 1 (fl := .s false)) (de_int 1)))) da_nil)))))
def s_is_less : EvS := (sRet (eB2 oLt (eFl (eB2 oMul (eB2 oIx (eVar 0) (eC (.int 0))) (eB2 oIx (eVar 1) (eC (.int 1))))) (eFl (eB2 oMul (eB2 oIx (eVar 1) (eC (.int 0))) (eB2 oIx (eVar 0) (eC (.int 1)))))))
def f_is_less : List D → Rs D := runF 0 s_is_less
abbrev n_is_less : List Str := ["one", "other"]
theorem d_is_less {G : Gb} (h : Fx G) (X : Cx) (W : WX) (g : Gs G n_is_less (defScope t_is_less) 0 W X) : PSs X (defBody t_is_less) (TSv G ⟨true, W, []⟩ (F0 2 0) [] s_is_less) :=
  (ds_one (ds_ret (de_cmp op_lt (ops_CI fun i j => decide (i < j)) (de_fl (de_mul (de_ix g.g.toGv (de_var g.g.toGv 0 (fl := .s false)) (de_int 0)) (de_ix g.g.toGv (de_var g.g.toGv 1 (fl := .s false)) (de_int 1)))) (de_fl (de_mul (de_ix g.g.toGv (de_var g.g.toGv 1 (fl := .s false)) (de_int 0)) (de_ix g.g.toGv (de_var g.g.toGv 0 (fl := .s false)) (de_int 1)))))))
def s_divisor : EvS := (sSeq (sWh (tV (eB2 oNe (eVar 1) (eC (.int 0))))
 (sSeq (sAs 2 (eB2 oMod (eVar 0) (eVar 1)))
  (sSeq (sAs 0 (eFl (eVar 1)))
  (sAs 1 (eFl (eVar 2))))))
  (sRet (eBi oAbs (aCons (eVar 0) aNil))))
def f_divisor : List D → Rs D := runF 1 s_divisor
abbrev n_divisor : List Str := ["one", "other", "rest"]
theorem d_divisor {G : Gb} (h : Fx G) (X : Cx) (W : WX) (g : Gs G n_divisor (defScope t_divisor) 0 W X) : PSs X (defBody t_divisor) (TSv G ⟨true, W, []⟩ (F0 2 1) [] s_divisor) :=
  (ds_cons (ds_while (F := [.s false, .s false, .n]) g.g (dt_cmp (opr_neG g.g.toGv) ops_ne (de_var g.g.toGv 1 (fl := .s false)) (de_int 0))
 (dss_wk (F := [.s false, .s false, .n]) (F1 := [.o true, .o true, .s true]) (F2 := [.s false, .s false, .n]) (ds_cons (ds_as (F1 := [.s false, .s false, .n]) (f := (.uq true)) g.g.toGv g.fn 2 (de_mod (de_var g.g.toGv 0 (fl := .s false)) (de_var g.g.toGv 1 (fl := .s false))))
  (ds_cons (ds_as (F1 := [.s false, .s false, .o true]) (f := (.uq true)) g.g.toGv g.fn 0 (de_fl (de_var g.g.toGv 1 (fl := .s false))))
  (ds_one (ds_as (F1 := [.o true, .s false, .s true]) (f := (.uq true)) g.g.toGv g.fn 1 (de_fl (de_mv g.g.toGv 2 (fl := .o true)))))))))
  (ds_one (ds_ret (de_abs g.g.toGv h.b_abs (da_cons (de_var g.g.toGv 0 (fl := .s false)) da_nil)))))
def s_ratio : EvS := (sSeq (sIf (tV (eB2 oEq (eVar 1) (eC (.int 0))))
 (sRai 0)
 sNil)
  (sSeq (sAs 2 (eCall f_divisor (aCons (eVar 0) (aCons (eVar 1) aNil))))
  (sSeq (sIf (tV (eB2 oLt (eVar 1) (eC (.int 0))))
 (sAs 2 (eB2 oSub (eC (.int 0)) (eVar 2)))
 sNil)
  (sRet (eTup (aCons (eB2 oDiv (eVar 0) (eVar 2)) (aCons (eB2 oDiv (eVar 1) (eVar 2)) aNil)))))))
def f_ratio : List D → Rs D := runF 1 s_ratio
abbrev n_ratio : List Str := ["top", "bottom", "part"]
theorem d_ratio {G : Gb} (h : Fx G) (c_divisor : Cal G 1 "divisor" true 2 f_divisor) (X : Cx) (W : WX) (g : Gs G n_ratio (defScope t_ratio) 1 W X) : PSs X (defBody t_ratio) (TSv G ⟨true, W, []⟩ (F0 2 1) [] s_ratio) :=
  (ds_cons (ds_if (F := [.s false, .s false, .n]) (F1 := [.s false, .s false, .n]) (Fo := [.s false, .s false, .n]) (dt_cmp (opr_eqG g.g.toGv) ops_eq (de_var g.g.toGv 1 (fl := .s false)) (de_int 0))
 (ds_one (ds_rai g.g h.x_NoFraction))
 ds_nil)
  (ds_cons (ds_as (F1 := [.s false, .s false, .n]) (f := (.uq true)) g.g.toGv g.fn 2 (de_call g.g c_divisor (da_cons (de_var g.g.toGv 0 (fl := .s false)) (da_cons (de_var g.g.toGv 1 (fl := .s false)) da_nil))))
  (ds_cons (ds_if (F := [.s false, .s false, .o true]) (F1 := [.s false, .s false, .o true]) (Fo := [.s false, .s false, .o true]) (dt_cmp op_lt (ops_CI fun i j => decide (i < j)) (de_var g.g.toGv 1 (fl := .s false)) (de_int 0))
 (ds_one (ds_as (F1 := [.s false, .s false, .o true]) (f := (.uq true)) g.g.toGv g.fn 2 (de_sub (de_int 0) (de_var g.g.toGv 2 (fl := .o true)))))
 ds_nil)
  (ds_one (ds_ret (de_tup (da_cons (de_div (de_var g.g.toGv 0 (fl := .s false)) (de_var g.g.toGv 2 (fl := .o true))) (da_cons (de_div (de_var g.g.toGv 1 (fl := .s false)) (de_var g.g.toGv 2 (fl := .o true))) da_nil))))))))
def s_product_of : EvS := (sRet (eCall f_ratio (aCons (eFl (eB2 oMul (eB2 oIx (eVar 0) (eC (.int 0))) (eB2 oIx (eVar 1) (eC (.int 0))))) (aCons (eFl (eB2 oMul (eB2 oIx (eVar 0) (eC (.int 1))) (eB2 oIx (eVar 1) (eC (.int 1))))) aNil))))
def f_product_of : List D → Rs D := runF 0 s_product_of
abbrev n_product_of : List Str := ["one", "other"]
theorem d_product_of {G : Gb} (h : Fx G) (c_ratio : Cal G 2 "ratio" true 2 f_ratio) (X : Cx) (W : WX) (g : Gs G n_product_of (defScope t_product_of) 2 W X) : PSs X (defBody t_product_of) (TSv G ⟨true, W, []⟩ (F0 2 0) [] s_product_of) :=
  (ds_one (ds_ret (de_call g.g c_ratio (da_cons (de_fl (de_mul (de_ix g.g.toGv (de_var g.g.toGv 0 (fl := .s false)) (de_int 0)) (de_ix g.g.toGv (de_var g.g.toGv 1 (fl := .s false)) (de_int 0)))) (da_cons (de_fl (de_mul (de_ix g.g.toGv (de_var g.g.toGv 0 (fl := .s false)) (de_int 1)) (de_ix g.g.toGv (de_var g.g.toGv 1 (fl := .s false)) (de_int 1)))) da_nil)))))
def s_times_of : EvS := (sSeq (sIf (tO (tV (eB2 oEq (eVar 0) (eC g_NOUGHT))) (tV (eB2 oEq (eVar 1) (eC g_ONE))))
 (sRet (eFl (eVar 0)))
 sNil)
  (sRet (eCall f_product_of (aCons (eVar 0) (aCons (eVar 1) aNil)))))
def f_times_of : List D → Rs D := runF 0 s_times_of
abbrev n_times_of : List Str := ["one", "number"]
theorem d_times_of {G : Gb} (h : Fx G) (c_product_of : Cal G 3 "product_of" true 2 f_product_of) (X : Cx) (W : WX) (g : Gs G n_times_of (defScope t_times_of) 3 W X) : PSs X (defBody t_times_of) (TSv G ⟨true, W, []⟩ (F0 2 0) [] s_times_of) :=
  (ds_cons (ds_if (F := [.s false, .s false]) (F1 := [.s false, .s false]) (Fo := [.s false, .s false]) (dt_w (dw_or (dt_cmp (opr_eqG g.g.toGv) ops_eq (de_var g.g.toGv 0 (fl := .s false)) (de_glo g.g.toGv h.g_NOUGHT)) (dw_or1 (dt_cmp (opr_eqG g.g.toGv) ops_eq (de_var g.g.toGv 1 (fl := .s false)) (de_glo g.g.toGv h.g_ONE)))))
 (ds_one (ds_ret (de_fl (de_var g.g.toGv 0 (fl := .s false)))))
 ds_nil)
  (ds_one (ds_ret (de_call g.g c_product_of (da_cons (de_var g.g.toGv 0 (fl := .s false)) (da_cons (de_var g.g.toGv 1 (fl := .s false)) da_nil))))))
def s_times_row : EvS := (sRet (eLc [2] (iL (eVar 0)) (set1 2) (fun _ => .ok true) (eCall f_times_of (aCons (eVar 2) (aCons (eVar 1) aNil)))))
def f_times_row : List D → Rs D := runF 1 s_times_row
abbrev n_times_row : List Str := ["row", "number", "one"]
theorem d_times_row {G : Gb} (h : Fx G) (c_times_of : Cal G 4 "times_of" true 2 f_times_of) (X : Cx) (W : WX) (g : Gs G n_times_row (defScope t_times_row) 4 W X) : PSs X (defBody t_times_row) (TSv G ⟨true, W, []⟩ (F0 2 1) [] s_times_row) :=
  (ds_one (ds_ret (de_lc (F1 := [.s false, .s false, .n]) (F2 := [.s false, .s false, .s false]) (F3 := [.s false, .s false, .s false]) (F4 := [.s false, .s false, .s false]) (f := (.uq true)) g.g [("one", 2)] (di_list g.g (de_var g.g.toGv 0 (fl := .s false))) (blk_by (by decide +kernel)) (fun X' gb fb => (tg_nameB gb.toGv 2)) (fun X' gb => dts_nil) (fun X' gb => (de_call gb c_times_of (da_cons (de_var gb.toGv 2 (fl := .s false)) (da_cons (de_var gb.toGv 1 (fl := .s false)) da_nil)))))))
def s_unit_row : EvS := (sSeq (sAs 2 (eLc [3] (iRn (aCons (eVar 0) aNil)) (set1 3) (fun _ => .ok true) (eFl (eC g_NOUGHT))))
  (sSeq (sSub 2 (eVar 1) (eFl (eC g_ONE)))
  (sRet (eVar 2))))
def f_unit_row : List D → Rs D := runF 2 s_unit_row
abbrev n_unit_row : List Str := ["many", "place", "row", "k"]
theorem d_unit_row {G : Gb} (h : Fx G) (X : Cx) (W : WX) (g : Gs G n_unit_row (defScope t_unit_row) 0 W X) : PSs X (defBody t_unit_row) (TSv G ⟨true, W, []⟩ (F0 2 2) [] s_unit_row) :=
  (ds_cons (ds_asLc (F1 := [.s false, .s false, .n, .n]) (F2 := [.s false, .s false, .n, .s false]) (F3 := [.s false, .s false, .n, .s false]) (F4 := [.s false, .s false, .n, .s false]) (f := (.uq true)) g 2 [("k", 3)] (di_range1 g.g h.b_range (da_cons (de_var g.g.toGv 0 (fl := .s false)) da_nil)) (blk_by (by decide +kernel)) (fun X' gb fb => (tg_nameB gb.toGv 3)) (fun X' gb => dts_nil) (fun X' gb => (de_fl (de_glo gb.toGv h.g_NOUGHT))))
  (ds_cons (ds_sub (F1 := [.s false, .s false, .o true, .n]) (F2 := [.s false, .s false, .o true, .n]) (f := (.uq true)) g.g.toGv 2 (dp0 := true) (dp := true) (de_fl (de_glo g.g.toGv h.g_ONE)) (de_var g.g.toGv 1 (fl := .s false)))
  (ds_one (ds_ret (de_tk g.g.toGv 2 (fl := .o true))))))
def sB_Table___init__ : EvS := sStuck
def sM_Table___init__ : EvX := (sB (sSetM 0 0 0 .s (eFl (eVar 3)))
 (sB (sSetM 0 0 1 (.o .s) (eLst aNil))
 (sB (sSetM 0 0 2 (.o .s) (eLst aNil))
 (sB (sSetM 0 0 3 (.o .s) (eLst aNil))
 (sB (sFor (iRn (aCons (eBi oLen (aCons (eVar 1) aNil)) aNil)) (set1 4)
 (sSeq (sAs 5 (eFl (eC g_ONE)))
  (sSeq (sIf (tV (eCall f_is_less (aCons (eB2 oIx (eVar 2) (eVar 4)) (aCons (eC g_NOUGHT) aNil))))
 (sAs 5 (eTup (aCons (eU1 oNeg (eC (.int 1))) (aCons (eC (.int 1)) aNil))))
 sNil)
  (sSeq (sAppF 0 0 1 (eFl (eVar 5)))
  (sSeq (sAs 6 (eCall f_times_row (aCons (eB2 oAdd (eB2 oIx (eVar 1) (eVar 4)) (eLst (aCons (eB2 oIx (eVar 2) (eVar 4)) aNil))) (aCons (eVar 5) aNil))))
  (sSeq (sAppF 0 0 2 (eB2 oAdd (eB2 oAdd (eSl (eVar 6) oNo (oYes (eVar 3))) (eCall f_unit_row (aCons (eBi oLen (aCons (eVar 1) aNil)) (aCons (eVar 4) aNil)))) (eSl (eVar 6) (oYes (eVar 3)) oNo)))
  (sAppF 0 0 3 (eFl (eB2 oAdd (eVar 3) (eVar 4))))))))))
 (fun en => .ok (.non, en)))))))
def f_Table___init__ : List D → Rs D := runX 1 3 sB_Table___init__ sM_Table___init__
abbrev n_Table___init__ : List Str := ["self", "rows", "rights", "many", "k", "sign", "own"]
theorem dB_Table___init__ {G : Gb} (h : Fx G) (c_is_less : Cal G 1 "is_less" true 2 f_is_less) (c_times_row : Cal G 5 "times_row" true 2 f_times_row) (c_unit_row : Cal G 1 "unit_row" true 2 f_unit_row) (X : Cx) (W : WX) (g : Gs G n_Table___init__ (defScope t_Table___init__) 5 W X) : PSs X (defBody t_Table___init__) (TSv G ⟨false, W, []⟩ (F0 4 3) [] sB_Table___init__) :=
  dss_stuck
theorem dM_Table___init__ {G : Gb} (h : Fx G) (c_is_less : Cal G 1 "is_less" true 2 f_is_less) (c_times_row : Cal G 5 "times_row" true 2 f_times_row) (c_unit_row : Cal G 1 "unit_row" true 2 f_unit_row) (X : Cx) (W : WX) (g : Gs G n_Table___init__ (defScope t_Table___init__) 5 W X) : PSs X (defBody t_Table___init__) (TBv G W true (FX [(.m (.cons .s (.cons (.o .s) (.cons (.o .s) (.cons (.o .s) .nil)))))] 4 3) [(.ma (.m (.cons .s (.cons (.o .s) (.cons (.o .s) (.cons (.o .s) .nil)))))), .n, .n, .n, .n, .n, .n] sM_Table___init__) :=
  (db_cons (F := [(.ma (.m (.cons .s (.cons (.o .s) (.cons (.o .s) (.cons (.o .s) .nil)))))), .s false, .s false, .s false, .n, .n, .n]) (F1 := [(.ma (.m (.cons .s (.cons (.o .s) (.cons (.o .s) (.cons (.o .s) .nil)))))), .s false, .s false, .s false, .n, .n, .n]) (ds_setM (F := [(.ma (.m (.cons .s (.cons (.o .s) (.cons (.o .s) (.cons (.o .s) .nil)))))), .s false, .s false, .s false, .n, .n, .n]) (F1 := [(.ma (.m (.cons .s (.cons (.o .s) (.cons (.o .s) (.cons (.o .s) .nil)))))), .s false, .s false, .s false, .n, .n, .n]) (fl := (.ma (.m (.cons .s (.cons (.o .s) (.cons (.o .s) (.cons (.o .s) .nil))))))) (fs := (.cons .s (.cons (.o .s) (.cons (.o .s) (.cons (.o .s) .nil))))) (fv := (.uq true)) (j := 0) g.g.toGv h.k_Table 0 (de_fl (de_var g.g.toGv 3 (fl := .s false))))
 (db_cons (F := [(.ma (.m (.cons .s (.cons (.o .s) (.cons (.o .s) (.cons (.o .s) .nil)))))), .s false, .s false, .s false, .n, .n, .n]) (F1 := [(.ma (.m (.cons .s (.cons (.o .s) (.cons (.o .s) (.cons (.o .s) .nil)))))), .s false, .s false, .s false, .n, .n, .n]) (ds_setM (F := [(.ma (.m (.cons .s (.cons (.o .s) (.cons (.o .s) (.cons (.o .s) .nil)))))), .s false, .s false, .s false, .n, .n, .n]) (F1 := [(.ma (.m (.cons .s (.cons (.o .s) (.cons (.o .s) (.cons (.o .s) .nil)))))), .s false, .s false, .s false, .n, .n, .n]) (fl := (.ma (.m (.cons .s (.cons (.o .s) (.cons (.o .s) (.cons (.o .s) .nil))))))) (fs := (.cons .s (.cons (.o .s) (.cons (.o .s) (.cons (.o .s) .nil))))) (fv := (.uq true)) (j := 1) g.g.toGv h.k_Table 0 (de_lst da_nil))
 (db_cons (F := [(.ma (.m (.cons .s (.cons (.o .s) (.cons (.o .s) (.cons (.o .s) .nil)))))), .s false, .s false, .s false, .n, .n, .n]) (F1 := [(.ma (.m (.cons .s (.cons (.o .s) (.cons (.o .s) (.cons (.o .s) .nil)))))), .s false, .s false, .s false, .n, .n, .n]) (ds_setM (F := [(.ma (.m (.cons .s (.cons (.o .s) (.cons (.o .s) (.cons (.o .s) .nil)))))), .s false, .s false, .s false, .n, .n, .n]) (F1 := [(.ma (.m (.cons .s (.cons (.o .s) (.cons (.o .s) (.cons (.o .s) .nil)))))), .s false, .s false, .s false, .n, .n, .n]) (fl := (.ma (.m (.cons .s (.cons (.o .s) (.cons (.o .s) (.cons (.o .s) .nil))))))) (fs := (.cons .s (.cons (.o .s) (.cons (.o .s) (.cons (.o .s) .nil))))) (fv := (.uq true)) (j := 2) g.g.toGv h.k_Table 0 (de_lst da_nil))
 (db_cons (F := [(.ma (.m (.cons .s (.cons (.o .s) (.cons (.o .s) (.cons (.o .s) .nil)))))), .s false, .s false, .s false, .n, .n, .n]) (F1 := [(.ma (.m (.cons .s (.cons (.o .s) (.cons (.o .s) (.cons (.o .s) .nil)))))), .s false, .s false, .s false, .n, .n, .n]) (ds_setM (F := [(.ma (.m (.cons .s (.cons (.o .s) (.cons (.o .s) (.cons (.o .s) .nil)))))), .s false, .s false, .s false, .n, .n, .n]) (F1 := [(.ma (.m (.cons .s (.cons (.o .s) (.cons (.o .s) (.cons (.o .s) .nil)))))), .s false, .s false, .s false, .n, .n, .n]) (fl := (.ma (.m (.cons .s (.cons (.o .s) (.cons (.o .s) (.cons (.o .s) .nil))))))) (fs := (.cons .s (.cons (.o .s) (.cons (.o .s) (.cons (.o .s) .nil))))) (fv := (.uq true)) (j := 3) g.g.toGv h.k_Table 0 (de_lst da_nil))
 (db_cons (F := [(.ma (.m (.cons .s (.cons (.o .s) (.cons (.o .s) (.cons (.o .s) .nil)))))), .s false, .s false, .s false, .n, .n, .n]) (F1 := [(.ma (.m (.cons .s (.cons (.o .s) (.cons (.o .s) (.cons (.o .s) .nil)))))), .s false, .s false, .s false, .n, .n, .n]) (ds_for (F := [(.ma (.m (.cons .s (.cons (.o .s) (.cons (.o .s) (.cons (.o .s) .nil)))))), .s false, .s false, .s false, .n, .n, .n]) (F1 := [(.ma (.m (.cons .s (.cons (.o .s) (.cons (.o .s) (.cons (.o .s) .nil)))))), .s false, .s false, .s false, .n, .n, .n]) (F2 := [(.ma (.m (.cons .s (.cons (.o .s) (.cons (.o .s) (.cons (.o .s) .nil)))))), .s false, .s false, .s false, .s true, .n, .n]) (Fh := [(.ma (.m (.cons .s (.cons (.o .s) (.cons (.o .s) (.cons (.o .s) .nil)))))), .s false, .s false, .s false, .n, .n, .n]) g (di_range1 g.g h.b_range (da_cons (de_len g.g.toGv h.b_len (da_cons (de_var g.g.toGv 1 (fl := .s false)) da_nil)) da_nil)) (tg_name g.g.toGv g.fn 4)
 (dss_wk (F := [(.ma (.m (.cons .s (.cons (.o .s) (.cons (.o .s) (.cons (.o .s) .nil)))))), .s false, .s false, .s false, .s true, .n, .n]) (F1 := [(.ma (.m (.cons .s (.cons (.o .s) (.cons (.o .s) (.cons (.o .s) .nil)))))), .s false, .s false, .s false, .s true, .s true, .o true]) (F2 := [(.ma (.m (.cons .s (.cons (.o .s) (.cons (.o .s) (.cons (.o .s) .nil)))))), .s false, .s false, .s false, .n, .n, .n]) (ds_cons (ds_as (F1 := [(.ma (.m (.cons .s (.cons (.o .s) (.cons (.o .s) (.cons (.o .s) .nil)))))), .s false, .s false, .s false, .s true, .n, .n]) (f := (.uq true)) g.g.toGv g.fn 5 (de_fl (de_glo g.g.toGv h.g_ONE)))
  (ds_cons (ds_if (F := [(.ma (.m (.cons .s (.cons (.o .s) (.cons (.o .s) (.cons (.o .s) .nil)))))), .s false, .s false, .s false, .s true, .o true, .n]) (F1 := [(.ma (.m (.cons .s (.cons (.o .s) (.cons (.o .s) (.cons (.o .s) .nil)))))), .s false, .s false, .s false, .s true, .o true, .n]) (Fo := [(.ma (.m (.cons .s (.cons (.o .s) (.cons (.o .s) (.cons (.o .s) .nil)))))), .s false, .s false, .s false, .s true, .o true, .n]) (dt_val (de_call g.g c_is_less (da_cons (de_ix g.g.toGv (de_var g.g.toGv 2 (fl := .s false)) (de_var g.g.toGv 4 (fl := .s true))) (da_cons (de_glo g.g.toGv h.g_NOUGHT) da_nil))))
 (ds_one (ds_as (F1 := [(.ma (.m (.cons .s (.cons (.o .s) (.cons (.o .s) (.cons (.o .s) .nil)))))), .s false, .s false, .s false, .s true, .o true, .n]) (f := (.uq true)) g.g.toGv g.fn 5 (de_tup (da_cons (de_neg (de_int 1)) (da_cons (de_int 1) da_nil)))))
 ds_nil)
  (ds_cons (ds_pre (F := [(.ma (.m (.cons .s (.cons (.o .s) (.cons (.o .s) (.cons (.o .s) .nil)))))), .s false, .s false, .s false, .s true, .o true, .n]) (F1 := [(.ma (.m (.cons .s (.cons (.o .s) (.cons (.o .s) (.cons (.o .s) .nil)))))), .s false, .s false, .s false, .s true, .s true, .n]) (ds_appF (F := [(.ma (.m (.cons .s (.cons (.o .s) (.cons (.o .s) (.cons (.o .s) .nil)))))), .s false, .s false, .s false, .s true, .s true, .n]) (fl := (.ma (.m (.cons .s (.cons (.o .s) (.cons (.o .s) (.cons (.o .s) .nil))))))) (fv := (.uq true)) (j := 1) g.g.toGv h.k_Table 0 (de_fl (de_var g.g.toGv 5 (fl := .s true)))))
  (ds_cons (ds_as (F1 := [(.ma (.m (.cons .s (.cons (.o .s) (.cons (.o .s) (.cons (.o .s) .nil)))))), .s false, .s false, .s false, .s true, .s true, .n]) (f := (.uq true)) g.g.toGv g.fn 6 (de_call g.g c_times_row (da_cons (de_add (de_ix g.g.toGv (de_var g.g.toGv 1 (fl := .s false)) (de_var g.g.toGv 4 (fl := .s true))) (de_lst (da_cons (de_ix g.g.toGv (de_var g.g.toGv 2 (fl := .s false)) (de_var g.g.toGv 4 (fl := .s true))) da_nil))) (da_cons (de_var g.g.toGv 5 (fl := .s true)) da_nil))))
  (ds_cons (ds_appF (F := [(.ma (.m (.cons .s (.cons (.o .s) (.cons (.o .s) (.cons (.o .s) .nil)))))), .s false, .s false, .s false, .s true, .s true, .o true]) (fl := (.ma (.m (.cons .s (.cons (.o .s) (.cons (.o .s) (.cons (.o .s) .nil))))))) (fv := (.uq true)) (j := 2) g.g.toGv h.k_Table 0 (de_add (de_add (de_sl g.g.toGv (de_var g.g.toGv 6 (fl := .o true)) do_no (do_yes (de_var g.g.toGv 3 (fl := .s false)))) (de_call g.g c_unit_row (da_cons (de_len g.g.toGv h.b_len (da_cons (de_var g.g.toGv 1 (fl := .s false)) da_nil)) (da_cons (de_var g.g.toGv 4 (fl := .s true)) da_nil)))) (de_sl g.g.toGv (de_var g.g.toGv 6 (fl := .o true)) (do_yes (de_var g.g.toGv 3 (fl := .s false))) do_no)))
  (ds_one (ds_appF (F := [(.ma (.m (.cons .s (.cons (.o .s) (.cons (.o .s) (.cons (.o .s) .nil)))))), .s false, .s false, .s false, .s true, .s true, .o true]) (fl := (.ma (.m (.cons .s (.cons (.o .s) (.cons (.o .s) (.cons (.o .s) .nil))))))) (fv := (.uq true)) (j := 3) g.g.toGv h.k_Table 0 (de_fl (de_add (de_var g.g.toGv 3 (fl := .s false)) (de_var g.g.toGv 4 (fl := .s true)))))))))))))
 (db_pre (F := [(.ma (.m (.cons .s (.cons (.o .s) (.cons (.o .s) (.cons (.o .s) .nil)))))), .s false, .s false, .s false, .n, .n, .n]) (F1 := [(.ma (.m (.cons .s (.cons (.o .s) (.cons (.o .s) (.cons (.o .s) .nil)))))), .n, .n, .n, .n, .n, .n]) db_nil))))))
def s_rest_of : EvS := (sRet (eCall f_ratio (aCons (eB2 oSub (eFl (eB2 oMul (eB2 oIx (eVar 0) (eC (.int 0))) (eB2 oIx (eVar 1) (eC (.int 1))))) (eFl (eB2 oMul (eB2 oIx (eVar 1) (eC (.int 0))) (eB2 oIx (eVar 0) (eC (.int 1)))))) (aCons (eFl (eB2 oMul (eB2 oIx (eVar 0) (eC (.int 1))) (eB2 oIx (eVar 1) (eC (.int 1))))) aNil))))
def f_rest_of : List D → Rs D := runF 0 s_rest_of
abbrev n_rest_of : List Str := ["one", "other"]
theorem d_rest_of {G : Gb} (h : Fx G) (c_ratio : Cal G 2 "ratio" true 2 f_ratio) (X : Cx) (W : WX) (g : Gs G n_rest_of (defScope t_rest_of) 2 W X) : PSs X (defBody t_rest_of) (TSv G ⟨true, W, []⟩ (F0 2 0) [] s_rest_of) :=
  (ds_one (ds_ret (de_call g.g c_ratio (da_cons (de_sub (de_fl (de_mul (de_ix g.g.toGv (de_var g.g.toGv 0 (fl := .s false)) (de_int 0)) (de_ix g.g.toGv (de_var g.g.toGv 1 (fl := .s false)) (de_int 1)))) (de_fl (de_mul (de_ix g.g.toGv (de_var g.g.toGv 1 (fl := .s false)) (de_int 0)) (de_ix g.g.toGv (de_var g.g.toGv 0 (fl := .s false)) (de_int 1))))) (da_cons (de_fl (de_mul (de_ix g.g.toGv (de_var g.g.toGv 0 (fl := .s false)) (de_int 1)) (de_ix g.g.toGv (de_var g.g.toGv 1 (fl := .s false)) (de_int 1)))) da_nil)))))
def s_less_of : EvS := (sSeq (sIf (tV (eB2 oEq (eVar 1) (eC g_NOUGHT)))
 (sRet (eFl (eVar 0)))
 sNil)
  (sRet (eCall f_rest_of (aCons (eVar 0) (aCons (eCall f_times_of (aCons (eVar 1) (aCons (eVar 2) aNil))) aNil)))))
def f_less_of : List D → Rs D := runF 0 s_less_of
abbrev n_less_of : List Str := ["one", "two", "number"]
theorem d_less_of {G : Gb} (h : Fx G) (c_rest_of : Cal G 3 "rest_of" true 2 f_rest_of) (c_times_of : Cal G 4 "times_of" true 2 f_times_of) (X : Cx) (W : WX) (g : Gs G n_less_of (defScope t_less_of) 4 W X) : PSs X (defBody t_less_of) (TSv G ⟨true, W, []⟩ (F0 3 0) [] s_less_of) :=
  (ds_cons (ds_if (F := [.s false, .s false, .s false]) (F1 := [.s false, .s false, .s false]) (Fo := [.s false, .s false, .s false]) (dt_cmp (opr_eqG g.g.toGv) ops_eq (de_var g.g.toGv 1 (fl := .s false)) (de_glo g.g.toGv h.g_NOUGHT))
 (ds_one (ds_ret (de_fl (de_var g.g.toGv 0 (fl := .s false)))))
 ds_nil)
  (ds_one (ds_ret (de_call g.g c_rest_of (da_cons (de_var g.g.toGv 0 (fl := .s false)) (da_cons (de_call g.g c_times_of (da_cons (de_var g.g.toGv 1 (fl := .s false)) (da_cons (de_var g.g.toGv 2 (fl := .s false)) da_nil))) da_nil))))))
def s_less_row : EvS := (sSeq (sIf (tV (eB2 oEq (eVar 2) (eC g_NOUGHT)))
 (sRet (eVar 0))
 sNil)
  (sRet (eLc [3, 4] (iZp (aCons (eVar 0) (aCons (eVar 1) aNil))) (setT [3, 4]) (fun _ => .ok true) (eCall f_less_of (aCons (eVar 3) (aCons (eVar 4) (aCons (eVar 2) aNil)))))))
def f_less_row : List D → Rs D := runF 2 s_less_row
abbrev n_less_row : List Str := ["row", "other", "number", "one", "two"]
theorem d_less_row {G : Gb} (h : Fx G) (c_less_of : Cal G 5 "less_of" true 3 f_less_of) (X : Cx) (W : WX) (g : Gs G n_less_row (defScope t_less_row) 5 W X) : PSs X (defBody t_less_row) (TSv G ⟨false, W, []⟩ (F0 3 2) [] s_less_row) :=
  (ds_cons (ds_if (F := [.s false, .s false, .s false, .n, .n]) (F1 := [.s false, .s false, .s false, .n, .n]) (Fo := [.s false, .s false, .s false, .n, .n]) (dt_cmp (opr_eqG g.g.toGv) ops_eq (de_var g.g.toGv 2 (fl := .s false)) (de_glo g.g.toGv h.g_NOUGHT))
 (ds_one (ds_ret (de_var g.g.toGv 0 (fl := .s false))))
 ds_nil)
  (ds_one (ds_ret (de_lc (F1 := [.s false, .s false, .s false, .n, .n]) (F2 := [.s false, .s false, .s false, .s false, .s false]) (F3 := [.s false, .s false, .s false, .s false, .s false]) (F4 := [.s false, .s false, .s false, .s false, .s false]) (f := (.uq true)) g.g [("one", 3), ("two", 4)] (di_zip g.g h.b_zip (da_cons (de_var g.g.toGv 0 (fl := .s false)) (da_cons (de_var g.g.toGv 1 (fl := .s false)) da_nil))) (blk_by (by decide +kernel)) (fun X' gb fb => (tg_tupL gb [3, 4])) (fun X' gb => dts_nil) (fun X' gb => (de_call gb c_less_of (da_cons (de_var gb.toGv 3 (fl := .s false)) (da_cons (de_var gb.toGv 4 (fl := .s false)) (da_cons (de_var gb.toGv 2 (fl := .s false)) da_nil)))))))))
def sB_Table_costs_row : EvS := (sSeq (sAs 2 (eB2 oAdd (eVar 1) (eLst (aCons (eC g_NOUGHT) aNil))))
  (sSeq (sFor (iZp (aCons (eFld 0 3 (eVar 0)) (aCons (eFld 0 2 (eVar 0)) aNil))) (setT [3, 4])
 (sAs 2 (eCall f_less_row (aCons (eVar 2) (aCons (eVar 4) (aCons (eB2 oIx (eVar 1) (eVar 3)) aNil))))))
  (sRet (eVar 2))))
def sM_Table_costs_row : EvX := (sB (sAs 2 (eB2 oAdd (eVar 1) (eLst (aCons (eC g_NOUGHT) aNil))))
 (sB (sForZF 0 0 3 2 (setT [3, 4])
 (sAs 2 (eCall f_less_row (aCons (eVar 2) (aCons (eVar 4) (aCons (eB2 oIx (eVar 1) (eVar 3)) aNil))))))
 (xPure (eVar 2))))
def f_Table_costs_row : List D → Rs D := runX 1 3 sB_Table_costs_row sM_Table_costs_row
def fB_Table_costs_row : List D → Rs D := runF 3 sB_Table_costs_row
abbrev n_Table_costs_row : List Str := ["self", "costs", "row", "head", "line"]
theorem dB_Table_costs_row {G : Gb} (h : Fx G) (c_less_row : Cal G 6 "less_row" false 3 f_less_row) (X : Cx) (W : WX) (g : Gs G n_Table_costs_row (defScope t_Table_costs_row) 6 W X) : PSs X (defBody t_Table_costs_row) (TSv G ⟨false, W, []⟩ (F0 2 3) [] sB_Table_costs_row) :=
  (ds_cons (ds_as (F1 := [.s false, .s false, .n, .n, .n]) (f := (.uq false)) g.g.toGv g.fn 2 (de_add (de_var g.g.toGv 1 (fl := .s false)) (de_lst (da_cons (de_glo g.g.toGv h.g_NOUGHT) da_nil))))
  (ds_cons (ds_for (F := [.s false, .s false, .o false, .n, .n]) (F1 := [.s false, .s false, .o false, .n, .n]) (F2 := [.s false, .s false, .s false, .s false, .s false]) (Fh := [.s false, .s false, .s false, .n, .n]) g (di_zip g.g h.b_zip (da_cons (de_fld (j := 3) g.g.toGv h.k_Table (de_var g.g.toGv 0 (fl := .s false))) (da_cons (de_fld (j := 2) g.g.toGv h.k_Table (de_var g.g.toGv 0 (fl := .s false))) da_nil))) (tg_tup g.g g.fn [3, 4])
 (dss_wk (F := [.s false, .s false, .s false, .s false, .s false]) (F1 := [.s false, .s false, .s false, .s false, .s false]) (F2 := [.s false, .s false, .s false, .n, .n]) (ds_one (ds_as (F1 := [.s false, .s false, .s false, .s false, .s false]) (f := (.sh false)) g.g.toGv g.fn 2 (de_call g.g c_less_row (da_cons (de_var g.g.toGv 2 (fl := .s false)) (da_cons (de_var g.g.toGv 4 (fl := .s false)) (da_cons (de_ix g.g.toGv (de_var g.g.toGv 1 (fl := .s false)) (de_var g.g.toGv 3 (fl := .s false))) da_nil))))))))
  (ds_one (ds_ret (de_var g.g.toGv 2 (fl := .s false))))))
theorem dM_Table_costs_row {G : Gb} (h : Fx G) (c_less_row : Cal G 6 "less_row" false 3 f_less_row) (X : Cx) (W : WX) (g : Gs G n_Table_costs_row (defScope t_Table_costs_row) 6 W X) : PSs X (defBody t_Table_costs_row) (TBv G W true (FX [(.m (.cons .s (.cons (.o .s) (.cons (.o .s) (.cons (.o .s) .nil)))))] 2 3) [(.ma (.m (.cons .s (.cons (.o .s) (.cons (.o .s) (.cons (.o .s) .nil)))))), .n, .n, .n, .n] sM_Table_costs_row) :=
  (db_cons (F := [(.ma (.m (.cons .s (.cons (.o .s) (.cons (.o .s) (.cons (.o .s) .nil)))))), .s false, .n, .n, .n]) (F1 := [(.ma (.m (.cons .s (.cons (.o .s) (.cons (.o .s) (.cons (.o .s) .nil)))))), .s false, .o false, .n, .n]) (ds_as (F1 := [(.ma (.m (.cons .s (.cons (.o .s) (.cons (.o .s) (.cons (.o .s) .nil)))))), .s false, .n, .n, .n]) (f := (.uq false)) g.g.toGv g.fn 2 (de_add (de_var g.g.toGv 1 (fl := .s false)) (de_lst (da_cons (de_glo g.g.toGv h.g_NOUGHT) da_nil))))
 (db_cons (F := [(.ma (.m (.cons .s (.cons (.o .s) (.cons (.o .s) (.cons (.o .s) .nil)))))), .s false, .o false, .n, .n]) (F1 := [(.ma (.m (.cons .s (.cons (.o .s) (.cons (.o .s) (.cons (.o .s) .nil)))))), .s false, .s false, .n, .n]) (ds_forZF (F := [(.ma (.m (.cons .s (.cons (.o .s) (.cons (.o .s) (.cons (.o .s) .nil)))))), .s false, .o false, .n, .n]) (Fo := [(.ma (.m (.cons .s (.cons (.o .s) (.cons (.o .s) (.cons (.o .s) .nil)))))), .s false, .s false, .n, .n]) (fl := (.ma (.m (.cons .s (.cons (.o .s) (.cons (.o .s) (.cons (.o .s) .nil))))))) (F2a := fun a => [.x a, .s false, .s false, .s false, .s false]) (Fha := fun a => [.x a, .s false, .s false, .n, .n]) (j1 := 3) (j2 := 2) g h.k_Table 0 h.b_zip (fun a => (tg_tup g.g g.fn [3, 4]))
 (fun a => (dss_wk (F := [.x a, .s false, .s false, .s false, .s false]) (F1 := [.x a, .s false, .s false, .s false, .s false]) (F2 := [.x a, .s false, .s false, .n, .n]) (ds_one (ds_as (F1 := [.x a, .s false, .s false, .s false, .s false]) (f := (.sh false)) g.g.toGv g.fn 2 (de_call g.g c_less_row (da_cons (de_var g.g.toGv 2 (fl := .s false)) (da_cons (de_var g.g.toGv 4 (fl := .s false)) (da_cons (de_ix g.g.toGv (de_var g.g.toGv 1 (fl := .s false)) (de_var g.g.toGv 3 (fl := .s false))) da_nil)))))) (by simp [wkL, SF.wk, VF.slot]))) (fun _ => by simp [wkL, SF.wk, VF.slot]))
 (db_ret (F := [(.ma (.m (.cons .s (.cons (.o .s) (.cons (.o .s) (.cons (.o .s) .nil)))))), .s false, .s false, .n, .n]) (F1 := [(.ma (.m (.cons .s (.cons (.o .s) (.cons (.o .s) (.cons (.o .s) .nil)))))), .s false, .s false, .n, .n]) (Fe := [(.ma (.m (.cons .s (.cons (.o .s) (.cons (.o .s) (.cons (.o .s) .nil)))))), .n, .n, .n, .n]) (f := (.sh false)) (dy_e (de_var g.g.toGv 2 (fl := .s false))))))
def s_quotient_of : EvS := (sRet (eCall f_ratio (aCons (eFl (eB2 oMul (eB2 oIx (eVar 0) (eC (.int 0))) (eB2 oIx (eVar 1) (eC (.int 1))))) (aCons (eFl (eB2 oMul (eB2 oIx (eVar 0) (eC (.int 1))) (eB2 oIx (eVar 1) (eC (.int 0))))) aNil))))
def f_quotient_of : List D → Rs D := runF 0 s_quotient_of
abbrev n_quotient_of : List Str := ["one", "other"]
theorem d_quotient_of {G : Gb} (h : Fx G) (c_ratio : Cal G 2 "ratio" true 2 f_ratio) (X : Cx) (W : WX) (g : Gs G n_quotient_of (defScope t_quotient_of) 2 W X) : PSs X (defBody t_quotient_of) (TSv G ⟨true, W, []⟩ (F0 2 0) [] s_quotient_of) :=
  (ds_one (ds_ret (de_call g.g c_ratio (da_cons (de_fl (de_mul (de_ix g.g.toGv (de_var g.g.toGv 0 (fl := .s false)) (de_int 0)) (de_ix g.g.toGv (de_var g.g.toGv 1 (fl := .s false)) (de_int 1)))) (da_cons (de_fl (de_mul (de_ix g.g.toGv (de_var g.g.toGv 0 (fl := .s false)) (de_int 1)) (de_ix g.g.toGv (de_var g.g.toGv 1 (fl := .s false)) (de_int 0)))) da_nil)))))
def sB_Table_turned : EvS := sStuck
def sM_Table_turned : EvX := (sB (sSubF 0 0 2 (eVar 1) (eCall f_times_row (aCons (eB2 oIx (eFld 0 2 (eVar 0)) (eVar 1)) (aCons (eFl (eCall f_quotient_of (aCons (eC g_ONE) (aCons (eB2 oIx (eB2 oIx (eFld 0 2 (eVar 0)) (eVar 1)) (eVar 2)) aNil)))) aNil))))
 (sB (sSubF 0 0 3 (eVar 1) (eFl (eVar 2)))
 (sB (sFor (iRn (aCons (eFl (eBi oLen (aCons (eFld 0 2 (eVar 0)) aNil))) aNil)) (set1 4)
 (sIf (tV (eB2 oNe (eVar 4) (eVar 1)))
 (sSubF 0 0 2 (eVar 4) (eCall f_less_row (aCons (eB2 oIx (eFld 0 2 (eVar 0)) (eVar 4)) (aCons (eB2 oIx (eFld 0 2 (eVar 0)) (eVar 1)) (aCons (eFl (eB2 oIx (eB2 oIx (eFld 0 2 (eVar 0)) (eVar 4)) (eVar 2))) aNil)))))
 sNil))
 (xPure (eCall f_less_row (aCons (eVar 3) (aCons (eB2 oIx (eFld 0 2 (eVar 0)) (eVar 1)) (aCons (eB2 oIx (eVar 3) (eVar 2)) aNil))))))))
def f_Table_turned : List D → Rs D := runX 1 1 sB_Table_turned sM_Table_turned
abbrev n_Table_turned : List Str := ["self", "place", "column", "row", "k"]
theorem dB_Table_turned {G : Gb} (h : Fx G) (c_times_row : Cal G 5 "times_row" true 2 f_times_row) (c_less_row : Cal G 6 "less_row" false 3 f_less_row) (c_quotient_of : Cal G 3 "quotient_of" true 2 f_quotient_of) (X : Cx) (W : WX) (g : Gs G n_Table_turned (defScope t_Table_turned) 6 W X) : PSs X (defBody t_Table_turned) (TSv G ⟨false, W, []⟩ (F0 4 1) [] sB_Table_turned) :=
  dss_stuck
theorem dM_Table_turned {G : Gb} (h : Fx G) (c_times_row : Cal G 5 "times_row" true 2 f_times_row) (c_less_row : Cal G 6 "less_row" false 3 f_less_row) (c_quotient_of : Cal G 3 "quotient_of" true 2 f_quotient_of) (X : Cx) (W : WX) (g : Gs G n_Table_turned (defScope t_Table_turned) 6 W X) : PSs X (defBody t_Table_turned) (TBv G W true (FX [(.m (.cons .s (.cons (.o .s) (.cons (.o .s) (.cons (.o .s) .nil)))))] 4 1) [(.ma (.m (.cons .s (.cons (.o .s) (.cons (.o .s) (.cons (.o .s) .nil)))))), .n, .n, .n, .n] sM_Table_turned) :=
  (db_cons (F := [(.ma (.m (.cons .s (.cons (.o .s) (.cons (.o .s) (.cons (.o .s) .nil)))))), .s false, .s false, .s false, .n]) (F1 := [(.ma (.m (.cons .s (.cons (.o .s) (.cons (.o .s) (.cons (.o .s) .nil)))))), .s false, .s false, .s false, .n]) (ds_subF (F := [(.ma (.m (.cons .s (.cons (.o .s) (.cons (.o .s) (.cons (.o .s) .nil)))))), .s false, .s false, .s false, .n]) (fl := (.ma (.m (.cons .s (.cons (.o .s) (.cons (.o .s) (.cons (.o .s) .nil))))))) (fv := (.uq true)) (j := 2) g.g.toGv h.k_Table 0 (de_call g.g c_times_row (da_cons (de_ix g.g.toGv (de_fldB (F := [(.ma (.m (.cons .s (.cons (.o .s) (.cons (.o .s) (.cons (.o .s) .nil)))))), .s false, .s false, .s false, .n]) (fl := (.ma (.m (.cons .s (.cons (.o .s) (.cons (.o .s) (.cons (.o .s) .nil))))))) (j := 2) g.g.toGv h.k_Table 0) (de_var g.g.toGv 1 (fl := .s false))) (da_cons (de_view (F := [(.ma (.m (.cons .s (.cons (.o .s) (.cons (.o .s) (.cons (.o .s) .nil)))))), .s false, .s false, .s false, .n]) (F' := [.s false, .s false, .s false, .s false, .n]) (F1 := [.s false, .s false, .s false, .s false, .n]) (de_call g.g c_quotient_of (da_cons (de_glo g.g.toGv h.g_ONE) (da_cons (de_ix g.g.toGv (de_ix g.g.toGv (de_fld (j := 2) g.g.toGv h.k_Table (de_var g.g.toGv 0 (fl := .s false))) (de_var g.g.toGv 1 (fl := .s false))) (de_var g.g.toGv 2 (fl := .s false))) da_nil)))) da_nil))) (de_var g.g.toGv 1 (fl := .s false)))
 (db_cons (F := [(.ma (.m (.cons .s (.cons (.o .s) (.cons (.o .s) (.cons (.o .s) .nil)))))), .s false, .s false, .s false, .n]) (F1 := [(.ma (.m (.cons .s (.cons (.o .s) (.cons (.o .s) (.cons (.o .s) .nil)))))), .s false, .s false, .s false, .n]) (ds_subF (F := [(.ma (.m (.cons .s (.cons (.o .s) (.cons (.o .s) (.cons (.o .s) .nil)))))), .s false, .s false, .s false, .n]) (fl := (.ma (.m (.cons .s (.cons (.o .s) (.cons (.o .s) (.cons (.o .s) .nil))))))) (fv := (.uq true)) (j := 3) g.g.toGv h.k_Table 0 (de_fl (de_var g.g.toGv 2 (fl := .s false))) (de_var g.g.toGv 1 (fl := .s false)))
 (db_cons (F := [(.ma (.m (.cons .s (.cons (.o .s) (.cons (.o .s) (.cons (.o .s) .nil)))))), .s false, .s false, .s false, .n]) (F1 := [(.ma (.m (.cons .s (.cons (.o .s) (.cons (.o .s) (.cons (.o .s) .nil)))))), .s false, .s false, .s false, .n]) (ds_for (F := [(.ma (.m (.cons .s (.cons (.o .s) (.cons (.o .s) (.cons (.o .s) .nil)))))), .s false, .s false, .s false, .n]) (F1 := [(.ma (.m (.cons .s (.cons (.o .s) (.cons (.o .s) (.cons (.o .s) .nil)))))), .s false, .s false, .s false, .n]) (F2 := [(.ma (.m (.cons .s (.cons (.o .s) (.cons (.o .s) (.cons (.o .s) .nil)))))), .s false, .s false, .s false, .s true]) (Fh := [(.ma (.m (.cons .s (.cons (.o .s) (.cons (.o .s) (.cons (.o .s) .nil)))))), .s false, .s false, .s false, .n]) g (di_range1 g.g h.b_range (da_cons (de_view (F := [(.ma (.m (.cons .s (.cons (.o .s) (.cons (.o .s) (.cons (.o .s) .nil)))))), .s false, .s false, .s false, .n]) (F' := [.s false, .s false, .s false, .s false, .n]) (F1 := [.s false, .s false, .s false, .s false, .n]) (de_len g.g.toGv h.b_len (da_cons (de_fld (j := 2) g.g.toGv h.k_Table (de_var g.g.toGv 0 (fl := .s false))) da_nil))) da_nil)) (tg_name g.g.toGv g.fn 4)
 (dss_wk (F := [(.ma (.m (.cons .s (.cons (.o .s) (.cons (.o .s) (.cons (.o .s) .nil)))))), .s false, .s false, .s false, .s true]) (F1 := [(.ma (.m (.cons .s (.cons (.o .s) (.cons (.o .s) (.cons (.o .s) .nil)))))), .s false, .s false, .s false, .s true]) (F2 := [(.ma (.m (.cons .s (.cons (.o .s) (.cons (.o .s) (.cons (.o .s) .nil)))))), .s false, .s false, .s false, .n]) (ds_one (ds_if (F := [(.ma (.m (.cons .s (.cons (.o .s) (.cons (.o .s) (.cons (.o .s) .nil)))))), .s false, .s false, .s false, .s true]) (F1 := [(.ma (.m (.cons .s (.cons (.o .s) (.cons (.o .s) (.cons (.o .s) .nil)))))), .s false, .s false, .s false, .s true]) (Fo := [(.ma (.m (.cons .s (.cons (.o .s) (.cons (.o .s) (.cons (.o .s) .nil)))))), .s false, .s false, .s false, .s true]) (dt_cmp (opr_neG g.g.toGv) ops_ne (de_var g.g.toGv 4 (fl := .s true)) (de_var g.g.toGv 1 (fl := .s false)))
 (ds_one (ds_subF (F := [(.ma (.m (.cons .s (.cons (.o .s) (.cons (.o .s) (.cons (.o .s) .nil)))))), .s false, .s false, .s false, .s true]) (fl := (.ma (.m (.cons .s (.cons (.o .s) (.cons (.o .s) (.cons (.o .s) .nil))))))) (fv := (.sh false)) (j := 2) g.g.toGv h.k_Table 0 (de_call g.g c_less_row (da_cons (de_ix g.g.toGv (de_fldB (F := [(.ma (.m (.cons .s (.cons (.o .s) (.cons (.o .s) (.cons (.o .s) .nil)))))), .s false, .s false, .s false, .s true]) (fl := (.ma (.m (.cons .s (.cons (.o .s) (.cons (.o .s) (.cons (.o .s) .nil))))))) (j := 2) g.g.toGv h.k_Table 0) (de_var g.g.toGv 4 (fl := .s true))) (da_cons (de_ix g.g.toGv (de_fldB (F := [(.ma (.m (.cons .s (.cons (.o .s) (.cons (.o .s) (.cons (.o .s) .nil)))))), .s false, .s false, .s false, .s true]) (fl := (.ma (.m (.cons .s (.cons (.o .s) (.cons (.o .s) (.cons (.o .s) .nil))))))) (j := 2) g.g.toGv h.k_Table 0) (de_var g.g.toGv 1 (fl := .s false))) (da_cons (de_view (F := [(.ma (.m (.cons .s (.cons (.o .s) (.cons (.o .s) (.cons (.o .s) .nil)))))), .s false, .s false, .s false, .s true]) (F' := [.s false, .s false, .s false, .s false, .s true]) (F1 := [.s false, .s false, .s false, .s false, .s true]) (de_ix g.g.toGv (de_ix g.g.toGv (de_fld (j := 2) g.g.toGv h.k_Table (de_var g.g.toGv 0 (fl := .s false))) (de_var g.g.toGv 4 (fl := .s true))) (de_var g.g.toGv 2 (fl := .s false)))) da_nil)))) (de_var g.g.toGv 4 (fl := .s true))))
 ds_nil))))
 (db_ret (F := [(.ma (.m (.cons .s (.cons (.o .s) (.cons (.o .s) (.cons (.o .s) .nil)))))), .s false, .s false, .s false, .n]) (F1 := [(.ma (.m (.cons .s (.cons (.o .s) (.cons (.o .s) (.cons (.o .s) .nil)))))), .s false, .s false, .s false, .n]) (Fe := [(.ma (.m (.cons .s (.cons (.o .s) (.cons (.o .s) (.cons (.o .s) .nil)))))), .n, .n, .n, .n]) (f := (.sh false)) (dy_e (de_call g.g c_less_row (da_cons (de_var g.g.toGv 3 (fl := .s false)) (da_cons (de_ix g.g.toGv (de_fldB (F := [(.ma (.m (.cons .s (.cons (.o .s) (.cons (.o .s) (.cons (.o .s) .nil)))))), .s false, .s false, .s false, .n]) (fl := (.ma (.m (.cons .s (.cons (.o .s) (.cons (.o .s) (.cons (.o .s) .nil))))))) (j := 2) g.g.toGv h.k_Table 0) (de_var g.g.toGv 1 (fl := .s false))) (da_cons (de_ix g.g.toGv (de_var g.g.toGv 3 (fl := .s false)) (de_var g.g.toGv 2 (fl := .s false))) da_nil)))))))))
def sB_Table_cleared : EvS := (sSeq (sFor (iRn (aCons (eBi oLen (aCons (eFld 0 2 (eVar 0)) aNil)) aNil)) (set1 2)
 (sIf (tV (eB2 oGe (eB2 oIx (eFld 0 3 (eVar 0)) (eVar 2)) (eFld 0 0 (eVar 0))))
 (sSeq (sAs 3 (eLc [4] (iRn (aCons (eFld 0 0 (eVar 0)) aNil)) (set1 4) (tV (eB2 oNe (eB2 oIx (eB2 oIx (eFld 0 2 (eVar 0)) (eVar 2)) (eVar 4)) (eC g_NOUGHT))) (eFl (eVar 4))))
  (sIf (tV (eB2 oGt (eBi oLen (aCons (eVar 3) aNil)) (eC (.int 0))))
 sStuck
 sNil))
 sNil))
  (sRet (eVar 1)))
def sM_Table_cleared : EvX := (sB (sFor (iRn (aCons (eFl (eBi oLen (aCons (eFld 0 2 (eVar 0)) aNil))) aNil)) (set1 2)
 (sIf (tV (eB2 oGe (eB2 oIx (eFld 0 3 (eVar 0)) (eVar 2)) (eFld 0 0 (eVar 0))))
 (sSeq (sAs 3 (eLc [4] (iRn (aCons (eFld 0 0 (eVar 0)) aNil)) (set1 4) (tV (eB2 oNe (eB2 oIx (eB2 oIx (eFld 0 2 (eVar 0)) (eVar 2)) (eVar 4)) (eC g_NOUGHT))) (eFl (eVar 4))))
  (sIf (tV (eB2 oGt (eBi oLen (aCons (eVar 3) aNil)) (eC (.int 0))))
 (sYa 1 (eMethX 0 f_Table_turned 0 (aCons (eVar 2) (aCons (eB2 oIx (eVar 3) (eC (.int 0))) (aCons (eVar 1) aNil)))))
 sNil))
 sNil))
 (xPure (eVar 1)))
def f_Table_cleared : List D → Rs D := runX 1 3 sB_Table_cleared sM_Table_cleared
def fB_Table_cleared : List D → Rs D := runF 3 sB_Table_cleared
abbrev n_Table_cleared : List Str := ["self", "row", "place", "some", "k"]
theorem dB_Table_cleared {G : Gb} (h : Fx G) (c_Table_turned : MetX G 7 0 "turned" [(.m (.cons .s (.cons (.o .s) (.cons (.o .s) (.cons (.o .s) .nil)))))] 4 f_Table_turned) (X : Cx) (W : WX) (g : Gs G n_Table_cleared (defScope t_Table_cleared) 7 W X) : PSs X (defBody t_Table_cleared) (TSv G ⟨false, W, []⟩ (F0 2 3) [] sB_Table_cleared) :=
  (ds_cons (ds_for (F := [.s false, .s false, .n, .n, .n]) (F1 := [.s false, .s false, .n, .n, .n]) (F2 := [.s false, .s false, .s true, .n, .n]) (Fh := [.s false, .s false, .n, .n, .n]) g (di_range1 g.g h.b_range (da_cons (de_len g.g.toGv h.b_len (da_cons (de_fld (j := 2) g.g.toGv h.k_Table (de_var g.g.toGv 0 (fl := .s false))) da_nil)) da_nil)) (tg_name g.g.toGv g.fn 2)
 (dss_wk (F := [.s false, .s false, .s true, .n, .n]) (F1 := [.s false, .s false, .s true, .n, .n]) (F2 := [.s false, .s false, .n, .n, .n]) (ds_one (ds_if (F := [.s false, .s false, .s true, .n, .n]) (F1 := [.s false, .s false, .s true, .n, .n]) (Fo := [.s false, .s false, .s true, .n, .n]) (dt_cmp op_ge (ops_CI fun i j => decide (j ≤ i)) (de_ix g.g.toGv (de_fld (j := 3) g.g.toGv h.k_Table (de_var g.g.toGv 0 (fl := .s false))) (de_var g.g.toGv 2 (fl := .s true))) (de_fld (j := 0) g.g.toGv h.k_Table (de_var g.g.toGv 0 (fl := .s false))))
 (dss_wk (F := [.s false, .s false, .s true, .n, .n]) (F1 := [.s false, .s false, .s true, .o true, .n]) (F2 := [.s false, .s false, .s true, .n, .n]) (ds_cons (ds_asLc (F1 := [.s false, .s false, .s true, .n, .n]) (F2 := [.s false, .s false, .s false, .n, .s false]) (F3 := [.s false, .s false, .s false, .n, .s false]) (F4 := [.s false, .s false, .s false, .n, .s false]) (f := (.uq true)) g 3 [("k", 4)] (di_range1 g.g h.b_range (da_cons (de_fld (j := 0) g.g.toGv h.k_Table (de_var g.g.toGv 0 (fl := .s false))) da_nil)) (blk_by (by decide +kernel)) (fun X' gb fb => (tg_nameB gb.toGv 4)) (fun X' gb => (dts_one (dt_cmp (opr_neG gb.toGv) ops_ne (de_ix gb.toGv (de_ix gb.toGv (de_fld (j := 2) gb.toGv h.k_Table (de_var gb.toGv 0 (fl := .s false))) (de_var gb.toGv 2 (fl := .s false))) (de_var gb.toGv 4 (fl := .s false))) (de_glo gb.toGv h.g_NOUGHT)))) (fun X' gb => (de_fl (de_var gb.toGv 4 (fl := .s false)))))
  (ds_one (ds_if (F := [.s false, .s false, .s true, .o true, .n]) (F1 := [.s false, .s false, .s true, .o true, .n]) (Fo := [.s false, .s false, .s true, .o true, .n]) (dt_cmp op_gt (ops_CI fun i j => decide (j < i)) (de_len g.g.toGv h.b_len (da_cons (de_var g.g.toGv 3 (fl := .o true)) da_nil)) (de_int 0))
 dss_stuck
 ds_nil))))
 ds_nil))))
  (ds_one (ds_ret (de_var g.g.toGv 1 (fl := .s false)))))
theorem dM_Table_cleared {G : Gb} (h : Fx G) (c_Table_turned : MetX G 7 0 "turned" [(.m (.cons .s (.cons (.o .s) (.cons (.o .s) (.cons (.o .s) .nil)))))] 4 f_Table_turned) (X : Cx) (W : WX) (g : Gs G n_Table_cleared (defScope t_Table_cleared) 7 W X) : PSs X (defBody t_Table_cleared) (TBv G W true (FX [(.m (.cons .s (.cons (.o .s) (.cons (.o .s) (.cons (.o .s) .nil)))))] 2 3) [(.ma (.m (.cons .s (.cons (.o .s) (.cons (.o .s) (.cons (.o .s) .nil)))))), .n, .n, .n, .n] sM_Table_cleared) :=
  (db_cons (F := [(.ma (.m (.cons .s (.cons (.o .s) (.cons (.o .s) (.cons (.o .s) .nil)))))), .s false, .n, .n, .n]) (F1 := [(.ma (.m (.cons .s (.cons (.o .s) (.cons (.o .s) (.cons (.o .s) .nil)))))), .s false, .n, .n, .n]) (ds_for (F := [(.ma (.m (.cons .s (.cons (.o .s) (.cons (.o .s) (.cons (.o .s) .nil)))))), .s false, .n, .n, .n]) (F1 := [(.ma (.m (.cons .s (.cons (.o .s) (.cons (.o .s) (.cons (.o .s) .nil)))))), .s false, .n, .n, .n]) (F2 := [(.ma (.m (.cons .s (.cons (.o .s) (.cons (.o .s) (.cons (.o .s) .nil)))))), .s false, .s true, .n, .n]) (Fh := [(.ma (.m (.cons .s (.cons (.o .s) (.cons (.o .s) (.cons (.o .s) .nil)))))), .s false, .n, .n, .n]) g (di_range1 g.g h.b_range (da_cons (de_view (F := [(.ma (.m (.cons .s (.cons (.o .s) (.cons (.o .s) (.cons (.o .s) .nil)))))), .s false, .n, .n, .n]) (F' := [.s false, .s false, .n, .n, .n]) (F1 := [.s false, .s false, .n, .n, .n]) (de_len g.g.toGv h.b_len (da_cons (de_fld (j := 2) g.g.toGv h.k_Table (de_var g.g.toGv 0 (fl := .s false))) da_nil))) da_nil)) (tg_name g.g.toGv g.fn 2)
 (dss_wk (F := [(.ma (.m (.cons .s (.cons (.o .s) (.cons (.o .s) (.cons (.o .s) .nil)))))), .s false, .s true, .n, .n]) (F1 := [(.ma (.m (.cons .s (.cons (.o .s) (.cons (.o .s) (.cons (.o .s) .nil)))))), .s false, .s true, .n, .n]) (F2 := [(.ma (.m (.cons .s (.cons (.o .s) (.cons (.o .s) (.cons (.o .s) .nil)))))), .s false, .n, .n, .n]) (ds_one (ds_if (F := [(.ma (.m (.cons .s (.cons (.o .s) (.cons (.o .s) (.cons (.o .s) .nil)))))), .s false, .s true, .n, .n]) (F1 := [(.ma (.m (.cons .s (.cons (.o .s) (.cons (.o .s) (.cons (.o .s) .nil)))))), .s false, .s true, .n, .n]) (Fo := [(.ma (.m (.cons .s (.cons (.o .s) (.cons (.o .s) (.cons (.o .s) .nil)))))), .s false, .s true, .n, .n]) (dt_view (F' := [.s false, .s false, .s true, .n, .n]) (F1 := [.s false, .s false, .s true, .n, .n]) (dt_cmp op_ge (ops_CI fun i j => decide (j ≤ i)) (de_ix g.g.toGv (de_fld (j := 3) g.g.toGv h.k_Table (de_var g.g.toGv 0 (fl := .s false))) (de_var g.g.toGv 2 (fl := .s true))) (de_fld (j := 0) g.g.toGv h.k_Table (de_var g.g.toGv 0 (fl := .s false)))))
 (dss_wk (F := [(.ma (.m (.cons .s (.cons (.o .s) (.cons (.o .s) (.cons (.o .s) .nil)))))), .s false, .s true, .n, .n]) (F1 := [(.ma (.m (.cons .s (.cons (.o .s) (.cons (.o .s) (.cons (.o .s) .nil)))))), .s false, .s true, .o true, .n]) (F2 := [(.ma (.m (.cons .s (.cons (.o .s) (.cons (.o .s) (.cons (.o .s) .nil)))))), .s false, .s true, .n, .n]) (ds_cons (ds_asLcN (F := [(.ma (.m (.cons .s (.cons (.o .s) (.cons (.o .s) (.cons (.o .s) .nil)))))), .s false, .s true, .n, .n]) (F1 := [.s false, .s false, .s false, .n, .n]) (F2 := [.s false, .s false, .s false, .n, .s false]) (F3 := [.s false, .s false, .s false, .n, .s false]) (F4 := [.s false, .s false, .s false, .n, .s false]) g 3 [("k", 4)] (di_range1 g.g h.b_range (da_cons (de_fld (j := 0) g.g.toGv h.k_Table (de_var g.g.toGv 0 (fl := .s false))) da_nil)) (blk_by (by decide +kernel)) (fun X' gb fb => (tg_nameB gb.toGv 4)) (fun X' gb => (dts_one (dt_cmp (opr_neG gb.toGv) ops_ne (de_ix gb.toGv (de_ix gb.toGv (de_fld (j := 2) gb.toGv h.k_Table (de_var gb.toGv 0 (fl := .s false))) (de_var gb.toGv 2 (fl := .s false))) (de_var gb.toGv 4 (fl := .s false))) (de_glo gb.toGv h.g_NOUGHT)))) (fun X' gb => (de_fl (de_var gb.toGv 4 (fl := .s false)))))
  (ds_one (ds_if (F := [(.ma (.m (.cons .s (.cons (.o .s) (.cons (.o .s) (.cons (.o .s) .nil)))))), .s false, .s true, .o true, .n]) (F1 := [(.ma (.m (.cons .s (.cons (.o .s) (.cons (.o .s) (.cons (.o .s) .nil)))))), .s false, .s true, .o true, .n]) (Fo := [(.ma (.m (.cons .s (.cons (.o .s) (.cons (.o .s) (.cons (.o .s) .nil)))))), .s false, .s true, .o true, .n]) (dt_cmp op_gt (ops_CI fun i j => decide (j < i)) (de_len g.g.toGv h.b_len (da_cons (de_var g.g.toGv 3 (fl := .o true)) da_nil)) (de_int 0))
 (ds_one (ds_ya (F := [(.ma (.m (.cons .s (.cons (.o .s) (.cons (.o .s) (.cons (.o .s) .nil)))))), .s false, .s true, .o true, .n]) (F1 := [(.ma (.m (.cons .s (.cons (.o .s) (.cons (.o .s) (.cons (.o .s) .nil)))))), .s false, .s true, .o true, .n]) (f := (.sh false)) g.g.toGv g.fn 1 (dy_meth (F := [(.ma (.m (.cons .s (.cons (.o .s) (.cons (.o .s) (.cons (.o .s) .nil)))))), .s false, .s true, .o true, .n]) (F1 := [(.ma (.m (.cons .s (.cons (.o .s) (.cons (.o .s) (.cons (.o .s) .nil)))))), .s false, .s true, .o true, .n]) (fl := (.ma (.m (.cons .s (.cons (.o .s) (.cons (.o .s) (.cons (.o .s) .nil))))))) g.g h.k_Table c_Table_turned 0 (da_cons (de_var g.g.toGv 2 (fl := .s true)) (da_cons (de_ix g.g.toGv (de_var g.g.toGv 3 (fl := .o true)) (de_int 0)) (da_cons (de_var g.g.toGv 1 (fl := .s false)) da_nil))))))
 ds_nil))))
 ds_nil))))
 (db_ret (F := [(.ma (.m (.cons .s (.cons (.o .s) (.cons (.o .s) (.cons (.o .s) .nil)))))), .s false, .n, .n, .n]) (F1 := [(.ma (.m (.cons .s (.cons (.o .s) (.cons (.o .s) (.cons (.o .s) .nil)))))), .s false, .n, .n, .n]) (Fe := [(.ma (.m (.cons .s (.cons (.o .s) (.cons (.o .s) (.cons (.o .s) .nil)))))), .n, .n, .n, .n]) (f := (.sh false)) (dy_e (de_var g.g.toGv 1 (fl := .s false)))))
def s_Table_place_for : EvS := (sSeq (sAs 2 (eC .non))
  (sSeq (sAs 3 (eFl (eC g_NOUGHT)))
  (sSeq (sFor (iRn (aCons (eBi oLen (aCons (eFld 0 2 (eVar 0)) aNil)) aNil)) (set1 4)
 (sSeq (sAs 5 (eFl (eB2 oIx (eB2 oIx (eFld 0 2 (eVar 0)) (eVar 4)) (eVar 1))))
  (sIf (tV (eCall f_is_less (aCons (eC g_NOUGHT) (aCons (eVar 5) aNil))))
 (sSeq (sAs 6 (eCall f_quotient_of (aCons (eB2 oIx (eB2 oIx (eFld 0 2 (eVar 0)) (eVar 4)) (eU1 oNeg (eC (.int 1)))) (aCons (eVar 5) aNil))))
  (sSeq (sAs 7 (eAn (eB2 (oIs true) (eVar 2) (eC .non)) (eAn (eB2 oEq (eVar 6) (eVar 3)) (eB2 oLt (eB2 oIx (eFld 0 3 (eVar 0)) (eVar 4)) (eB2 oIx (eFld 0 3 (eVar 0)) (eVar 2))))))
  (sIf (tO (tV (eB2 (oIs false) (eVar 2) (eC .non))) (tO (tV (eCall f_is_less (aCons (eVar 6) (aCons (eVar 3) aNil)))) (tV (eVar 7))))
 (sSeq (sAs 2 (eFl (eVar 4)))
  (sAs 3 (eFl (eVar 6))))
 sNil)))
 sNil)))
  (sRet (eVar 2)))))
def f_Table_place_for : List D → Rs D := runF 6 s_Table_place_for
abbrev n_Table_place_for : List Str := ["self", "column", "found", "least_one", "k", "part", "one", "alike"]
theorem d_Table_place_for {G : Gb} (h : Fx G) (c_is_less : Cal G 1 "is_less" true 2 f_is_less) (c_quotient_of : Cal G 3 "quotient_of" true 2 f_quotient_of) (X : Cx) (W : WX) (g : Gs G n_Table_place_for (defScope t_Table_place_for) 3 W X) : PSs X (defBody t_Table_place_for) (TSv G ⟨true, W, []⟩ (F0 2 6) [] s_Table_place_for) :=
  (ds_cons (ds_as (F1 := [.s false, .s false, .n, .n, .n, .n, .n, .n]) (f := (.uq true)) g.g.toGv g.fn 2 de_non)
  (ds_cons (ds_as (F1 := [.s false, .s false, .o true, .n, .n, .n, .n, .n]) (f := (.uq true)) g.g.toGv g.fn 3 (de_fl (de_glo g.g.toGv h.g_NOUGHT)))
  (ds_cons (ds_for (F := [.s false, .s false, .o true, .o true, .n, .n, .n, .n]) (F1 := [.s false, .s false, .o true, .o true, .n, .n, .n, .n]) (F2 := [.s false, .s false, .o true, .o true, .s true, .n, .n, .n]) (Fh := [.s false, .s false, .o true, .o true, .n, .n, .n, .n]) g (di_range1 g.g h.b_range (da_cons (de_len g.g.toGv h.b_len (da_cons (de_fld (j := 2) g.g.toGv h.k_Table (de_var g.g.toGv 0 (fl := .s false))) da_nil)) da_nil)) (tg_name g.g.toGv g.fn 4)
 (dss_wk (F := [.s false, .s false, .o true, .o true, .s true, .n, .n, .n]) (F1 := [.s false, .s false, .o true, .o true, .s true, .o true, .n, .n]) (F2 := [.s false, .s false, .o true, .o true, .n, .n, .n, .n]) (ds_cons (ds_as (F1 := [.s false, .s false, .o true, .o true, .s true, .n, .n, .n]) (f := (.uq true)) g.g.toGv g.fn 5 (de_fl (de_ix g.g.toGv (de_ix g.g.toGv (de_fld (j := 2) g.g.toGv h.k_Table (de_var g.g.toGv 0 (fl := .s false))) (de_var g.g.toGv 4 (fl := .s true))) (de_var g.g.toGv 1 (fl := .s false)))))
  (ds_one (ds_if (F := [.s false, .s false, .o true, .o true, .s true, .o true, .n, .n]) (F1 := [.s false, .s false, .o true, .o true, .s true, .o true, .n, .n]) (Fo := [.s false, .s false, .o true, .o true, .s true, .o true, .n, .n]) (dt_val (de_call g.g c_is_less (da_cons (de_glo g.g.toGv h.g_NOUGHT) (da_cons (de_var g.g.toGv 5 (fl := .o true)) da_nil))))
 (dss_wk (F := [.s false, .s false, .o true, .o true, .s true, .o true, .n, .n]) (F1 := [.s false, .s false, .o true, .o true, .s true, .o true, .s true, .o true]) (F2 := [.s false, .s false, .o true, .o true, .s true, .o true, .n, .n]) (ds_cons (ds_as (F1 := [.s false, .s false, .o true, .o true, .s true, .o true, .n, .n]) (f := (.uq true)) g.g.toGv g.fn 6 (de_call g.g c_quotient_of (da_cons (de_ix g.g.toGv (de_ix g.g.toGv (de_fld (j := 2) g.g.toGv h.k_Table (de_var g.g.toGv 0 (fl := .s false))) (de_var g.g.toGv 4 (fl := .s true))) (de_neg (de_int 1))) (da_cons (de_var g.g.toGv 5 (fl := .o true)) da_nil))))
  (ds_cons (ds_as (F1 := [.s false, .s false, .o true, .o true, .s true, .o true, .o true, .n]) (f := (.uq true)) g.g.toGv g.fn 7 (de_and (de_cmp opr_isnot (ops_is true) (de_var g.g.toGv 2 (fl := .o true)) de_non) (de_and (de_cmp (opr_eqG g.g.toGv) ops_eq (de_var g.g.toGv 6 (fl := .o true)) (de_var g.g.toGv 3 (fl := .o true))) (de_one (de_cmp op_lt (ops_CI fun i j => decide (i < j)) (de_ix g.g.toGv (de_fld (j := 3) g.g.toGv h.k_Table (de_var g.g.toGv 0 (fl := .s false))) (de_var g.g.toGv 4 (fl := .s true))) (de_ix g.g.toGv (de_fld (j := 3) g.g.toGv h.k_Table (de_var g.g.toGv 0 (fl := .s false))) (de_var g.g.toGv 2 (fl := .o true))))))))
  (ds_one (ds_if (F := [.s false, .s false, .o true, .o true, .s true, .o true, .o true, .o true]) (F1 := [.s false, .s false, .o true, .o true, .s true, .o true, .o true, .o true]) (Fo := [.s false, .s false, .o true, .o true, .s true, .o true, .s true, .o true]) (dt_w (dw_or (dt_cmp opr_is (ops_is false) (de_var g.g.toGv 2 (fl := .o true)) de_non) (dw_or (dt_val (de_call g.g c_is_less (da_cons (de_var g.g.toGv 6 (fl := .o true)) (da_cons (de_var g.g.toGv 3 (fl := .o true)) da_nil)))) (dw_or1 (dt_val (de_var g.g.toGv 7 (fl := .o true)))))))
 (ds_cons (ds_as (F1 := [.s false, .s false, .o true, .o true, .s true, .o true, .o true, .o true]) (f := (.uq true)) g.g.toGv g.fn 2 (de_fl (de_var g.g.toGv 4 (fl := .s true))))
  (ds_one (ds_as (F1 := [.s false, .s false, .o true, .o true, .s true, .o true, .s true, .o true]) (f := (.uq true)) g.g.toGv g.fn 3 (de_fl (de_mv g.g.toGv 6 (fl := .o true))))))
 (dss_wk (F := [.s false, .s false, .o true, .o true, .s true, .o true, .o true, .o true]) (F1 := [.s false, .s false, .o true, .o true, .s true, .o true, .o true, .o true]) (F2 := [.s false, .s false, .o true, .o true, .s true, .o true, .s true, .o true]) ds_nil))))))
 ds_nil)))))
  (ds_one (ds_ret (de_tk g.g.toGv 2 (fl := .o true)))))))
def sB_Table_brought_down : EvS := (sWh (tV (eC (.bl true)))
 (sSeq (sAs 2 (eLc [4] (iRn (aCons (eFld 0 0 (eVar 0)) aNil)) (set1 4) (tV (eCall f_is_less (aCons (eB2 oIx (eVar 1) (eVar 4)) (aCons (eC g_NOUGHT) aNil)))) (eFl (eVar 4))))
  (sSeq (sIf (tV (eB2 oEq (eBi oLen (aCons (eVar 2) aNil)) (eC (.int 0))))
 (sRet (eTup (aCons (eVar 1) (aCons (eC .non) aNil))))
 sNil)
  (sSeq (sAs 3 (eMeth 0 f_Table_place_for (eVar 0) (aCons (eB2 oIx (eVar 2) (eC (.int 0))) aNil)))
  (sSeq (sIf (tV (eB2 (oIs false) (eVar 3) (eC .non)))
 (sRet (eTup (aCons (eVar 1) (aCons (eB2 oIx (eVar 2) (eC (.int 0))) aNil))))
 sNil)
  sStuck)))))
def sM_Table_brought_down : EvX := (xLw (lB (sAs 2 (eLc [4] (iRn (aCons (eFl (eFld 0 0 (eVar 0))) aNil)) (set1 4) (tV (eCall f_is_less (aCons (eB2 oIx (eVar 1) (eVar 4)) (aCons (eC g_NOUGHT) aNil)))) (eFl (eVar 4))))
 (lIf (tV (eB2 oEq (eBi oLen (aCons (eVar 2) aNil)) (eC (.int 0))))
 (xPure (eTup (aCons (eVar 1) (aCons (eC .non) aNil))))
 (lB (sAs 3 (eFl (eMeth 0 f_Table_place_for (eVar 0) (aCons (eB2 oIx (eVar 2) (eC (.int 0))) aNil))))
 (lIf (tV (eB2 (oIs false) (eVar 3) (eC .non)))
 (xPure (eTup (aCons (eVar 1) (aCons (eB2 oIx (eVar 2) (eC (.int 0))) aNil))))
 (lB (sYa 1 (eMethX 0 f_Table_turned 0 (aCons (eVar 3) (aCons (eB2 oIx (eVar 2) (eC (.int 0))) (aCons (eVar 1) aNil)))))
 lEnd))))))
def f_Table_brought_down : List D → Rs D := runX 1 3 sB_Table_brought_down sM_Table_brought_down
def fB_Table_brought_down : List D → Rs D := runF 3 sB_Table_brought_down
abbrev n_Table_brought_down : List Str := ["self", "row", "below", "place", "k"]
theorem dB_Table_brought_down {G : Gb} (h : Fx G) (c_Table_place_for : MetC G 4 0 "place_for" true 1 f_Table_place_for) (c_Table_turned : MetX G 7 0 "turned" [(.m (.cons .s (.cons (.o .s) (.cons (.o .s) (.cons (.o .s) .nil)))))] 4 f_Table_turned) (c_is_less : Cal G 1 "is_less" true 2 f_is_less) (X : Cx) (W : WX) (g : Gs G n_Table_brought_down (defScope t_Table_brought_down) 7 W X) : PSs X (defBody t_Table_brought_down) (TSv G ⟨false, W, []⟩ (F0 2 3) [.s false, .s false, .n, .n, .n] sB_Table_brought_down) :=
  (ds_one (ds_while (F := [.s false, .s false, .n, .n, .n]) g.g (dt_val (de_bl true))
 (ds_cons (ds_asLc (F1 := [.s false, .s false, .n, .n, .n]) (F2 := [.s false, .s false, .n, .n, .s false]) (F3 := [.s false, .s false, .n, .n, .s false]) (F4 := [.s false, .s false, .n, .n, .s false]) (f := (.uq true)) g 2 [("k", 4)] (di_range1 g.g h.b_range (da_cons (de_fld (j := 0) g.g.toGv h.k_Table (de_var g.g.toGv 0 (fl := .s false))) da_nil)) (blk_by (by decide +kernel)) (fun X' gb fb => (tg_nameB gb.toGv 4)) (fun X' gb => (dts_one (dt_val (de_call gb c_is_less (da_cons (de_ix gb.toGv (de_var gb.toGv 1 (fl := .s false)) (de_var gb.toGv 4 (fl := .s false))) (da_cons (de_glo gb.toGv h.g_NOUGHT) da_nil)))))) (fun X' gb => (de_fl (de_var gb.toGv 4 (fl := .s false)))))
  (ds_cons (ds_if (F := [.s false, .s false, .o true, .n, .n]) (F1 := [.s false, .s false, .o true, .n, .n]) (Fo := [.s false, .s false, .o true, .n, .n]) (dt_cmp (opr_eqG g.g.toGv) ops_eq (de_len g.g.toGv h.b_len (da_cons (de_var g.g.toGv 2 (fl := .o true)) da_nil)) (de_int 0))
 (ds_one (ds_ret (de_tup (da_cons (de_var g.g.toGv 1 (fl := .s false)) (da_cons de_non da_nil)))))
 ds_nil)
  (ds_cons (ds_as (F1 := [.s false, .s false, .o true, .n, .n]) (f := (.uq true)) g.g.toGv g.fn 3 (de_meth g.g h.k_Table c_Table_place_for (de_var g.g.toGv 0 (fl := .s false)) (da_cons (de_ix g.g.toGv (de_var g.g.toGv 2 (fl := .o true)) (de_int 0)) da_nil)))
  (ds_cons (ds_if (F := [.s false, .s false, .o true, .o true, .n]) (F1 := [.s false, .s false, .o true, .o true, .n]) (Fo := [.s false, .s false, .o true, .o true, .n]) (dt_cmp opr_is (ops_is false) (de_var g.g.toGv 3 (fl := .o true)) de_non)
 (ds_one (ds_ret (de_tup (da_cons (de_var g.g.toGv 1 (fl := .s false)) (da_cons (de_ix g.g.toGv (de_var g.g.toGv 2 (fl := .o true)) (de_int 0)) da_nil)))))
 ds_nil)
  dss_stuck))))))
theorem dM_Table_brought_down {G : Gb} (h : Fx G) (c_Table_place_for : MetC G 4 0 "place_for" true 1 f_Table_place_for) (c_Table_turned : MetX G 7 0 "turned" [(.m (.cons .s (.cons (.o .s) (.cons (.o .s) (.cons (.o .s) .nil)))))] 4 f_Table_turned) (c_is_less : Cal G 1 "is_less" true 2 f_is_less) (X : Cx) (W : WX) (g : Gs G n_Table_brought_down (defScope t_Table_brought_down) 7 W X) : PSs X (defBody t_Table_brought_down) (TBv G W true (FX [(.m (.cons .s (.cons (.o .s) (.cons (.o .s) (.cons (.o .s) .nil)))))] 2 3) [(.ma (.m (.cons .s (.cons (.o .s) (.cons (.o .s) (.cons (.o .s) .nil)))))), .n, .n, .n, .n] sM_Table_brought_down) :=
  (db_while (F := [(.ma (.m (.cons .s (.cons (.o .s) (.cons (.o .s) (.cons (.o .s) .nil)))))), .s false, .n, .n, .n]) (Fe := [(.ma (.m (.cons .s (.cons (.o .s) (.cons (.o .s) (.cons (.o .s) .nil)))))), .n, .n, .n, .n]) g
 (dl_cons (F := [(.ma (.m (.cons .s (.cons (.o .s) (.cons (.o .s) (.cons (.o .s) .nil)))))), .s false, .n, .n, .n]) (F1 := [(.ma (.m (.cons .s (.cons (.o .s) (.cons (.o .s) (.cons (.o .s) .nil)))))), .s false, .o true, .n, .n]) (ds_asLc (F1 := [(.ma (.m (.cons .s (.cons (.o .s) (.cons (.o .s) (.cons (.o .s) .nil)))))), .s false, .n, .n, .n]) (F2 := [.n, .s false, .n, .n, .s false]) (F3 := [.n, .s false, .n, .n, .s false]) (F4 := [.n, .s false, .n, .n, .s false]) (f := (.uq true)) g 2 [("k", 4)] (di_range1 g.g h.b_range (da_cons (de_view (F := [(.ma (.m (.cons .s (.cons (.o .s) (.cons (.o .s) (.cons (.o .s) .nil)))))), .s false, .n, .n, .n]) (F' := [.s false, .s false, .n, .n, .n]) (F1 := [.s false, .s false, .n, .n, .n]) (de_fld (j := 0) g.g.toGv h.k_Table (de_var g.g.toGv 0 (fl := .s false)))) da_nil)) (blk_by (by decide +kernel)) (fun X' gb fb => (tg_nameB gb.toGv 4)) (fun X' gb => (dts_one (dt_val (de_call gb c_is_less (da_cons (de_ix gb.toGv (de_var gb.toGv 1 (fl := .s false)) (de_var gb.toGv 4 (fl := .s false))) (da_cons (de_glo gb.toGv h.g_NOUGHT) da_nil)))))) (fun X' gb => (de_fl (de_var gb.toGv 4 (fl := .s false)))))
 (dl_if (F := [(.ma (.m (.cons .s (.cons (.o .s) (.cons (.o .s) (.cons (.o .s) .nil)))))), .s false, .o true, .n, .n]) (F1 := [(.ma (.m (.cons .s (.cons (.o .s) (.cons (.o .s) (.cons (.o .s) .nil)))))), .s false, .o true, .n, .n]) (dt_cmp (opr_eqG g.g.toGv) ops_eq (de_len g.g.toGv h.b_len (da_cons (de_var g.g.toGv 2 (fl := .o true)) da_nil)) (de_int 0))
 (db_ret (F := [(.ma (.m (.cons .s (.cons (.o .s) (.cons (.o .s) (.cons (.o .s) .nil)))))), .s false, .o true, .n, .n]) (F1 := [(.ma (.m (.cons .s (.cons (.o .s) (.cons (.o .s) (.cons (.o .s) .nil)))))), .s false, .o true, .n, .n]) (Fe := [(.ma (.m (.cons .s (.cons (.o .s) (.cons (.o .s) (.cons (.o .s) .nil)))))), .n, .n, .n, .n]) (f := (.uq false)) (dy_e (de_tup (da_cons (de_var g.g.toGv 1 (fl := .s false)) (da_cons de_non da_nil)))))
 (dl_cons (F := [(.ma (.m (.cons .s (.cons (.o .s) (.cons (.o .s) (.cons (.o .s) .nil)))))), .s false, .o true, .n, .n]) (F1 := [(.ma (.m (.cons .s (.cons (.o .s) (.cons (.o .s) (.cons (.o .s) .nil)))))), .s false, .o true, .o true, .n]) (ds_as (F1 := [(.ma (.m (.cons .s (.cons (.o .s) (.cons (.o .s) (.cons (.o .s) .nil)))))), .s false, .o true, .n, .n]) (f := (.uq true)) g.g.toGv g.fn 3 (de_view (F := [(.ma (.m (.cons .s (.cons (.o .s) (.cons (.o .s) (.cons (.o .s) .nil)))))), .s false, .o true, .n, .n]) (F' := [.s false, .s false, .o true, .n, .n]) (F1 := [.s false, .s false, .o true, .n, .n]) (de_meth g.g h.k_Table c_Table_place_for (de_var g.g.toGv 0 (fl := .s false)) (da_cons (de_ix g.g.toGv (de_var g.g.toGv 2 (fl := .o true)) (de_int 0)) da_nil))))
 (dl_if (F := [(.ma (.m (.cons .s (.cons (.o .s) (.cons (.o .s) (.cons (.o .s) .nil)))))), .s false, .o true, .o true, .n]) (F1 := [(.ma (.m (.cons .s (.cons (.o .s) (.cons (.o .s) (.cons (.o .s) .nil)))))), .s false, .o true, .o true, .n]) (dt_cmp opr_is (ops_is false) (de_var g.g.toGv 3 (fl := .o true)) de_non)
 (db_ret (F := [(.ma (.m (.cons .s (.cons (.o .s) (.cons (.o .s) (.cons (.o .s) .nil)))))), .s false, .o true, .o true, .n]) (F1 := [(.ma (.m (.cons .s (.cons (.o .s) (.cons (.o .s) (.cons (.o .s) .nil)))))), .s false, .o true, .o true, .n]) (Fe := [(.ma (.m (.cons .s (.cons (.o .s) (.cons (.o .s) (.cons (.o .s) .nil)))))), .n, .n, .n, .n]) (f := (.uq false)) (dy_e (de_tup (da_cons (de_var g.g.toGv 1 (fl := .s false)) (da_cons (de_ix g.g.toGv (de_var g.g.toGv 2 (fl := .o true)) (de_int 0)) da_nil)))))
 (dl_cons (F := [(.ma (.m (.cons .s (.cons (.o .s) (.cons (.o .s) (.cons (.o .s) .nil)))))), .s false, .o true, .o true, .n]) (F1 := [(.ma (.m (.cons .s (.cons (.o .s) (.cons (.o .s) (.cons (.o .s) .nil)))))), .s false, .o true, .s true, .n]) (ds_ya (F := [(.ma (.m (.cons .s (.cons (.o .s) (.cons (.o .s) (.cons (.o .s) .nil)))))), .s false, .o true, .o true, .n]) (F1 := [(.ma (.m (.cons .s (.cons (.o .s) (.cons (.o .s) (.cons (.o .s) .nil)))))), .s false, .o true, .s true, .n]) (f := (.sh false)) g.g.toGv g.fn 1 (dy_meth (F := [(.ma (.m (.cons .s (.cons (.o .s) (.cons (.o .s) (.cons (.o .s) .nil)))))), .s false, .o true, .o true, .n]) (F1 := [(.ma (.m (.cons .s (.cons (.o .s) (.cons (.o .s) (.cons (.o .s) .nil)))))), .s false, .o true, .s true, .n]) (fl := (.ma (.m (.cons .s (.cons (.o .s) (.cons (.o .s) (.cons (.o .s) .nil))))))) g.g h.k_Table c_Table_turned 0 (da_cons (de_mv g.g.toGv 3 (fl := .o true)) (da_cons (de_ix g.g.toGv (de_var g.g.toGv 2 (fl := .o true)) (de_int 0)) (da_cons (de_var g.g.toGv 1 (fl := .s false)) da_nil)))))
 (dl_end (F := [(.ma (.m (.cons .s (.cons (.o .s) (.cons (.o .s) (.cons (.o .s) .nil)))))), .s false, .o true, .s true, .n]) (Fn := [(.ma (.m (.cons .s (.cons (.o .s) (.cons (.o .s) (.cons (.o .s) .nil)))))), .s false, .n, .n, .n]))))))))
def s_Table_solution : EvS := (sSeq (sAs 1 (eLc [4] (iRn (aCons (eFld 0 0 (eVar 0)) aNil)) (set1 4) (fun _ => .ok true) (eFl (eC g_NOUGHT))))
  (sSeq (sFor (iZp (aCons (eFld 0 3 (eVar 0)) (aCons (eFld 0 2 (eVar 0)) aNil))) (setT [2, 3])
 (sIf (tV (eB2 oLt (eVar 2) (eFld 0 0 (eVar 0))))
 (sSub 1 (eVar 2) (eFl (eB2 oIx (eVar 3) (eU1 oNeg (eC (.int 1))))))
 sNil))
  (sRet (eVar 1))))
def f_Table_solution : List D → Rs D := runF 4 s_Table_solution
abbrev n_Table_solution : List Str := ["self", "found", "head", "line", "k"]
theorem d_Table_solution {G : Gb} (h : Fx G) (X : Cx) (W : WX) (g : Gs G n_Table_solution (defScope t_Table_solution) 0 W X) : PSs X (defBody t_Table_solution) (TSv G ⟨true, W, []⟩ (F0 1 4) [] s_Table_solution) :=
  (ds_cons (ds_asLc (F1 := [.s false, .n, .n, .n, .n]) (F2 := [.s false, .n, .n, .n, .s false]) (F3 := [.s false, .n, .n, .n, .s false]) (F4 := [.s false, .n, .n, .n, .s false]) (f := (.uq true)) g 1 [("k", 4)] (di_range1 g.g h.b_range (da_cons (de_fld (j := 0) g.g.toGv h.k_Table (de_var g.g.toGv 0 (fl := .s false))) da_nil)) (blk_by (by decide +kernel)) (fun X' gb fb => (tg_nameB gb.toGv 4)) (fun X' gb => dts_nil) (fun X' gb => (de_fl (de_glo gb.toGv h.g_NOUGHT))))
  (ds_cons (ds_for (F := [.s false, .o true, .n, .n, .n]) (F1 := [.s false, .o true, .n, .n, .n]) (F2 := [.s false, .o true, .s false, .s false, .n]) (Fh := [.s false, .o true, .n, .n, .n]) g (di_zip g.g h.b_zip (da_cons (de_fld (j := 3) g.g.toGv h.k_Table (de_var g.g.toGv 0 (fl := .s false))) (da_cons (de_fld (j := 2) g.g.toGv h.k_Table (de_var g.g.toGv 0 (fl := .s false))) da_nil))) (tg_tup g.g g.fn [2, 3])
 (dss_wk (F := [.s false, .o true, .s false, .s false, .n]) (F1 := [.s false, .o true, .s false, .s false, .n]) (F2 := [.s false, .o true, .n, .n, .n]) (ds_one (ds_if (F := [.s false, .o true, .s false, .s false, .n]) (F1 := [.s false, .o true, .s false, .s false, .n]) (Fo := [.s false, .o true, .s false, .s false, .n]) (dt_cmp op_lt (ops_CI fun i j => decide (i < j)) (de_var g.g.toGv 2 (fl := .s false)) (de_fld (j := 0) g.g.toGv h.k_Table (de_var g.g.toGv 0 (fl := .s false))))
 (ds_one (ds_sub (F1 := [.s false, .o true, .s false, .s false, .n]) (F2 := [.s false, .o true, .s false, .s false, .n]) (f := (.uq true)) g.g.toGv 1 (dp0 := true) (dp := true) (de_fl (de_ix g.g.toGv (de_var g.g.toGv 3 (fl := .s false)) (de_neg (de_int 1)))) (de_var g.g.toGv 2 (fl := .s false))))
 ds_nil))))
  (ds_one (ds_ret (de_tk g.g.toGv 1 (fl := .o true))))))
def s_Table_prices : EvS := (sSeq (sAs 3 (eLst aNil))
  (sSeq (sFor (iRn (aCons (eBi oLen (aCons (eFld 0 2 (eVar 0)) aNil)) aNil)) (set1 4)
 (sApp 3 (eCall f_product_of (aCons (eCall f_rest_of (aCons (eVar 2) (aCons (eB2 oIx (eVar 1) (eFl (eB2 oAdd (eFld 0 0 (eVar 0)) (eVar 4)))) aNil))) (aCons (eB2 oIx (eFld 0 1 (eVar 0)) (eVar 4)) aNil)))))
  (sRet (eVar 3))))
def f_Table_prices : List D → Rs D := runF 2 s_Table_prices
abbrev n_Table_prices : List Str := ["self", "row", "cost", "found", "k"]
theorem d_Table_prices {G : Gb} (h : Fx G) (c_product_of : Cal G 3 "product_of" true 2 f_product_of) (c_rest_of : Cal G 3 "rest_of" true 2 f_rest_of) (X : Cx) (W : WX) (g : Gs G n_Table_prices (defScope t_Table_prices) 3 W X) : PSs X (defBody t_Table_prices) (TSv G ⟨true, W, []⟩ (F0 3 2) [] s_Table_prices) :=
  (ds_cons (ds_as (F1 := [.s false, .s false, .s false, .n, .n]) (f := (.uq true)) g.g.toGv g.fn 3 (de_lst da_nil))
  (ds_cons (ds_for (F := [.s false, .s false, .s false, .o true, .n]) (F1 := [.s false, .s false, .s false, .o true, .n]) (F2 := [.s false, .s false, .s false, .o true, .s true]) (Fh := [.s false, .s false, .s false, .o true, .n]) g (di_range1 g.g h.b_range (da_cons (de_len g.g.toGv h.b_len (da_cons (de_fld (j := 2) g.g.toGv h.k_Table (de_var g.g.toGv 0 (fl := .s false))) da_nil)) da_nil)) (tg_name g.g.toGv g.fn 4)
 (dss_wk (F := [.s false, .s false, .s false, .o true, .s true]) (F1 := [.s false, .s false, .s false, .o true, .s true]) (F2 := [.s false, .s false, .s false, .o true, .n]) (ds_one (ds_app (F1 := [.s false, .s false, .s false, .o true, .s true]) (f := (.uq true)) g.g.toGv 3 (dp0 := true) (dp := true) (de_call g.g c_product_of (da_cons (de_call g.g c_rest_of (da_cons (de_var g.g.toGv 2 (fl := .s false)) (da_cons (de_ix g.g.toGv (de_var g.g.toGv 1 (fl := .s false)) (de_fl (de_add (de_fld (j := 0) g.g.toGv h.k_Table (de_var g.g.toGv 0 (fl := .s false))) (de_var g.g.toGv 4 (fl := .s true))))) da_nil))) (da_cons (de_ix g.g.toGv (de_fld (j := 1) g.g.toGv h.k_Table (de_var g.g.toGv 0 (fl := .s false))) (de_var g.g.toGv 4 (fl := .s true))) da_nil)))))))
  (ds_one (ds_ret (de_tk g.g.toGv 3 (fl := .o true))))))
def s_Table_way : EvS := (sSeq (sAs 2 (eCall f_unit_row (aCons (eFld 0 0 (eVar 0)) (aCons (eVar 1) aNil))))
  (sSeq (sFor (iZp (aCons (eFld 0 3 (eVar 0)) (aCons (eFld 0 2 (eVar 0)) aNil))) (setT [3, 4])
 (sIf (tV (eB2 oLt (eVar 3) (eFld 0 0 (eVar 0))))
 (sSub 2 (eVar 3) (eCall f_rest_of (aCons (eC g_NOUGHT) (aCons (eB2 oIx (eVar 4) (eVar 1)) aNil))))
 sNil))
  (sRet (eVar 2))))
def f_Table_way : List D → Rs D := runF 3 s_Table_way
abbrev n_Table_way : List Str := ["self", "column", "found", "head", "line"]
theorem d_Table_way {G : Gb} (h : Fx G) (c_unit_row : Cal G 1 "unit_row" true 2 f_unit_row) (c_rest_of : Cal G 3 "rest_of" true 2 f_rest_of) (X : Cx) (W : WX) (g : Gs G n_Table_way (defScope t_Table_way) 3 W X) : PSs X (defBody t_Table_way) (TSv G ⟨true, W, []⟩ (F0 2 3) [] s_Table_way) :=
  (ds_cons (ds_as (F1 := [.s false, .s false, .n, .n, .n]) (f := (.uq true)) g.g.toGv g.fn 2 (de_call g.g c_unit_row (da_cons (de_fld (j := 0) g.g.toGv h.k_Table (de_var g.g.toGv 0 (fl := .s false))) (da_cons (de_var g.g.toGv 1 (fl := .s false)) da_nil))))
  (ds_cons (ds_for (F := [.s false, .s false, .o true, .n, .n]) (F1 := [.s false, .s false, .o true, .n, .n]) (F2 := [.s false, .s false, .o true, .s false, .s false]) (Fh := [.s false, .s false, .o true, .n, .n]) g (di_zip g.g h.b_zip (da_cons (de_fld (j := 3) g.g.toGv h.k_Table (de_var g.g.toGv 0 (fl := .s false))) (da_cons (de_fld (j := 2) g.g.toGv h.k_Table (de_var g.g.toGv 0 (fl := .s false))) da_nil))) (tg_tup g.g g.fn [3, 4])
 (dss_wk (F := [.s false, .s false, .o true, .s false, .s false]) (F1 := [.s false, .s false, .o true, .s false, .s false]) (F2 := [.s false, .s false, .o true, .n, .n]) (ds_one (ds_if (F := [.s false, .s false, .o true, .s false, .s false]) (F1 := [.s false, .s false, .o true, .s false, .s false]) (Fo := [.s false, .s false, .o true, .s false, .s false]) (dt_cmp op_lt (ops_CI fun i j => decide (i < j)) (de_var g.g.toGv 3 (fl := .s false)) (de_fld (j := 0) g.g.toGv h.k_Table (de_var g.g.toGv 0 (fl := .s false))))
 (ds_one (ds_sub (F1 := [.s false, .s false, .o true, .s false, .s false]) (F2 := [.s false, .s false, .o true, .s false, .s false]) (f := (.uq true)) g.g.toGv 2 (dp0 := true) (dp := true) (de_call g.g c_rest_of (da_cons (de_glo g.g.toGv h.g_NOUGHT) (da_cons (de_ix g.g.toGv (de_var g.g.toGv 4 (fl := .s false)) (de_var g.g.toGv 1 (fl := .s false))) da_nil))) (de_var g.g.toGv 3 (fl := .s false))))
 ds_nil))))
  (ds_one (ds_ret (de_tk g.g.toGv 2 (fl := .o true))))))
def s_least : EvS := (sSeq (sAsMk 3 0 f_Table___init__ (aCons (eVar 0) (aCons (eVar 1) (aCons (eBi oLen (aCons (eVar 2) aNil)) aNil))))
  (sSeq (sYa 4 (eMethX 0 f_Table_costs_row 3 (aCons (eB2 oAdd (eLc [6] (iL (eVar 2)) (set1 6) (fun _ => .ok true) (eFl (eC g_NOUGHT))) (eLc [6] (iL (eVar 0)) (set1 6) (fun _ => .ok true) (eFl (eC g_ONE)))) aNil)))
  (sSeq (sYa 4 (yIx (eMethX 0 f_Table_brought_down 3 (aCons (eVar 4) aNil)) (eC (.int 0))))
  (sSeq (sIf (tV (eB2 oNe (eB2 oIx (eVar 4) (eU1 oNeg (eC (.int 1)))) (eC g_NOUGHT)))
 (sRet (eTup (aCons (eC (.str "none")) (aCons (eMeth 0 f_Table_prices (eVar 3) (aCons (eVar 4) (aCons (eC g_ONE) aNil))) aNil))))
 sNil)
  (sSeq (sYx (eMethX 0 f_Table_cleared 3 (aCons (eVar 4) aNil)))
  (sSeq (sYtu [4, 5] (eMethY 0 f_Table_brought_down 3 (eMethX 0 f_Table_costs_row 3 (aCons (eB2 oAdd (eVar 2) (eLc [6] (iL (eVar 0)) (set1 6) (fun _ => .ok true) (eFl (eC g_NOUGHT)))) aNil))))
  (sSeq (sIf (tV (eB2 (oIs true) (eVar 5) (eC .non)))
 (sRet (eTup (aCons (eC (.str "endless")) (aCons (eMeth 0 f_Table_solution (eVar 3) aNil) (aCons (eMeth 0 f_Table_way (eVar 3) (aCons (eVar 5) aNil)) aNil)))))
 sNil)
  (sRet (eTup (aCons (eC (.str "least")) (aCons (eCall f_rest_of (aCons (eC g_NOUGHT) (aCons (eB2 oIx (eVar 4) (eU1 oNeg (eC (.int 1)))) aNil))) (aCons (eMeth 0 f_Table_solution (eVar 3) aNil) (aCons (eMeth 0 f_Table_prices (eVar 3) (aCons (eVar 4) (aCons (eC g_NOUGHT) aNil))) aNil)))))))))))))
def f_least : List D → Rs D := runF 4 s_least
abbrev n_least : List Str := ["rows", "rights", "costs", "table", "row", "column", "one"]
theorem d_least {G : Gb} (h : Fx G) (c_Table___init__ : MakX G 6 0 (.m (.cons .s (.cons (.o .s) (.cons (.o .s) (.cons (.o .s) .nil))))) 3 f_Table___init__) (cB_Table_costs_row : MetC G 7 0 "costs_row" false 1 fB_Table_costs_row) (c_Table_costs_row : MetX G 7 0 "costs_row" [(.m (.cons .s (.cons (.o .s) (.cons (.o .s) (.cons (.o .s) .nil)))))] 2 f_Table_costs_row) (cB_Table_cleared : MetC G 8 0 "cleared" false 1 fB_Table_cleared) (c_Table_cleared : MetX G 8 0 "cleared" [(.m (.cons .s (.cons (.o .s) (.cons (.o .s) (.cons (.o .s) .nil)))))] 2 f_Table_cleared) (cB_Table_brought_down : MetC G 8 0 "brought_down" false 1 fB_Table_brought_down) (c_Table_brought_down : MetX G 8 0 "brought_down" [(.m (.cons .s (.cons (.o .s) (.cons (.o .s) (.cons (.o .s) .nil)))))] 2 f_Table_brought_down) (c_rest_of : Cal G 3 "rest_of" true 2 f_rest_of) (c_Table_solution : MetC G 1 0 "solution" true 0 f_Table_solution) (c_Table_prices : MetC G 4 0 "prices" true 2 f_Table_prices) (c_Table_way : MetC G 4 0 "way" true 1 f_Table_way) (X : Cx) (W : WX) (g : Gs G n_least (defScope t_least) 8 W X) : PSs X (defBody t_least) (TSv G ⟨true, W, []⟩ (F0 3 4) [] s_least) :=
  (ds_cons (ds_asMk (F := [.s false, .s false, .s false, .n, .n, .n, .n]) (F1 := [.s false, .s false, .s false, .n, .n, .n, .n]) g h.k_Table c_Table___init__ 3 (da_cons (de_var g.g.toGv 0 (fl := .s false)) (da_cons (de_var g.g.toGv 1 (fl := .s false)) (da_cons (de_len g.g.toGv h.b_len (da_cons (de_var g.g.toGv 2 (fl := .s false)) da_nil)) da_nil))))
  (ds_cons (ds_ya (F := [.s false, .s false, .s false, (.dt (.m (.cons .s (.cons (.o .s) (.cons (.o .s) (.cons (.o .s) .nil)))))), .n, .n, .n]) (F1 := [.s false, .s false, .s false, (.dt (.m (.cons .s (.cons (.o .s) (.cons (.o .s) (.cons (.o .s) .nil)))))), .n, .n, .n]) (f := (.sh false)) g.g.toGv g.fn 4 (dy_meth (F := [.s false, .s false, .s false, (.dt (.m (.cons .s (.cons (.o .s) (.cons (.o .s) (.cons (.o .s) .nil)))))), .n, .n, .n]) (F1 := [.s false, .s false, .s false, (.dt (.m (.cons .s (.cons (.o .s) (.cons (.o .s) (.cons (.o .s) .nil)))))), .n, .n, .n]) (fl := (.dt (.m (.cons .s (.cons (.o .s) (.cons (.o .s) (.cons (.o .s) .nil))))))) g.g h.k_Table c_Table_costs_row 3 (da_cons (de_add (de_lc (F1 := [.s false, .s false, .s false, (.dt (.m (.cons .s (.cons (.o .s) (.cons (.o .s) (.cons (.o .s) .nil)))))), .n, .n, .n]) (F2 := [.s false, .s false, .s false, .n, .n, .n, .s false]) (F3 := [.s false, .s false, .s false, .n, .n, .n, .s false]) (F4 := [.s false, .s false, .s false, .n, .n, .n, .s false]) (f := (.uq true)) g.g [("one", 6)] (di_list g.g (de_var g.g.toGv 2 (fl := .s false))) (blk_by (by decide +kernel)) (fun X' gb fb => (tg_nameB gb.toGv 6)) (fun X' gb => dts_nil) (fun X' gb => (de_fl (de_glo gb.toGv h.g_NOUGHT)))) (de_lc (F1 := [.s false, .s false, .s false, (.dt (.m (.cons .s (.cons (.o .s) (.cons (.o .s) (.cons (.o .s) .nil)))))), .n, .n, .n]) (F2 := [.s false, .s false, .s false, .n, .n, .n, .s false]) (F3 := [.s false, .s false, .s false, .n, .n, .n, .s false]) (F4 := [.s false, .s false, .s false, .n, .n, .n, .s false]) (f := (.uq true)) g.g [("one", 6)] (di_list g.g (de_var g.g.toGv 0 (fl := .s false))) (blk_by (by decide +kernel)) (fun X' gb fb => (tg_nameB gb.toGv 6)) (fun X' gb => dts_nil) (fun X' gb => (de_fl (de_glo gb.toGv h.g_ONE))))) da_nil)))
  (ds_cons (ds_ya (F := [.s false, .s false, .s false, (.dt (.m (.cons .s (.cons (.o .s) (.cons (.o .s) (.cons (.o .s) .nil)))))), .s false, .n, .n]) (F1 := [.s false, .s false, .s false, (.dt (.m (.cons .s (.cons (.o .s) (.cons (.o .s) (.cons (.o .s) .nil)))))), .s false, .n, .n]) (f := (.sh false)) g.g.toGv g.fn 4 (dy_ix (F := [.s false, .s false, .s false, (.dt (.m (.cons .s (.cons (.o .s) (.cons (.o .s) (.cons (.o .s) .nil)))))), .s false, .n, .n]) (F1 := [.s false, .s false, .s false, (.dt (.m (.cons .s (.cons (.o .s) (.cons (.o .s) (.cons (.o .s) .nil)))))), .s false, .n, .n]) (F2 := [.s false, .s false, .s false, (.dt (.m (.cons .s (.cons (.o .s) (.cons (.o .s) (.cons (.o .s) .nil)))))), .s false, .n, .n]) (f1 := (.sh false)) g.g.toGv (dy_meth (F := [.s false, .s false, .s false, (.dt (.m (.cons .s (.cons (.o .s) (.cons (.o .s) (.cons (.o .s) .nil)))))), .s false, .n, .n]) (F1 := [.s false, .s false, .s false, (.dt (.m (.cons .s (.cons (.o .s) (.cons (.o .s) (.cons (.o .s) .nil)))))), .s false, .n, .n]) (fl := (.dt (.m (.cons .s (.cons (.o .s) (.cons (.o .s) (.cons (.o .s) .nil))))))) g.g h.k_Table c_Table_brought_down 3 (da_cons (de_var g.g.toGv 4 (fl := .s false)) da_nil)) (de_int 0)))
  (ds_cons (ds_if (F := [.s false, .s false, .s false, (.dt (.m (.cons .s (.cons (.o .s) (.cons (.o .s) (.cons (.o .s) .nil)))))), .s false, .n, .n]) (F1 := [.s false, .s false, .s false, (.dt (.m (.cons .s (.cons (.o .s) (.cons (.o .s) (.cons (.o .s) .nil)))))), .s false, .n, .n]) (Fo := [.s false, .s false, .s false, (.dt (.m (.cons .s (.cons (.o .s) (.cons (.o .s) (.cons (.o .s) .nil)))))), .s false, .n, .n]) (dt_cmp (opr_neG g.g.toGv) ops_ne (de_ix g.g.toGv (de_var g.g.toGv 4 (fl := .s false)) (de_neg (de_int 1))) (de_glo g.g.toGv h.g_NOUGHT))
 (ds_one (ds_ret (de_new (F := [.s false, .s false, .s false, (.dt (.m (.cons .s (.cons (.o .s) (.cons (.o .s) (.cons (.o .s) .nil)))))), .s false, .n, .n]) (F1 := [.s false, .s false, .s false, .s false, .s false, .n, .n]) (de_tup (da_cons (de_str "none") (da_cons (de_meth g.g h.k_Table c_Table_prices (de_var g.g.toGv 3 (fl := .s false)) (da_cons (de_var g.g.toGv 4 (fl := .s false)) (da_cons (de_glo g.g.toGv h.g_ONE) da_nil))) da_nil))))))
 ds_nil)
  (ds_cons (ds_yx (F1 := [.s false, .s false, .s false, (.dt (.m (.cons .s (.cons (.o .s) (.cons (.o .s) (.cons (.o .s) .nil)))))), .s false, .n, .n]) (f := (.sh false)) (dy_meth (F := [.s false, .s false, .s false, (.dt (.m (.cons .s (.cons (.o .s) (.cons (.o .s) (.cons (.o .s) .nil)))))), .s false, .n, .n]) (F1 := [.s false, .s false, .s false, (.dt (.m (.cons .s (.cons (.o .s) (.cons (.o .s) (.cons (.o .s) .nil)))))), .s false, .n, .n]) (fl := (.dt (.m (.cons .s (.cons (.o .s) (.cons (.o .s) (.cons (.o .s) .nil))))))) g.g h.k_Table c_Table_cleared 3 (da_cons (de_var g.g.toGv 4 (fl := .s false)) da_nil)))
  (ds_cons (ds_ytu (F := [.s false, .s false, .s false, (.dt (.m (.cons .s (.cons (.o .s) (.cons (.o .s) (.cons (.o .s) .nil)))))), .s false, .n, .n]) (F1 := [.s false, .s false, .s false, (.dt (.m (.cons .s (.cons (.o .s) (.cons (.o .s) (.cons (.o .s) .nil)))))), .s false, .n, .n]) (f := (.sh false)) g [4, 5] (dy_methY (F := [.s false, .s false, .s false, (.dt (.m (.cons .s (.cons (.o .s) (.cons (.o .s) (.cons (.o .s) .nil)))))), .s false, .n, .n]) (F1 := [.s false, .s false, .s false, (.dt (.m (.cons .s (.cons (.o .s) (.cons (.o .s) (.cons (.o .s) .nil)))))), .s false, .n, .n]) (fl := (.dt (.m (.cons .s (.cons (.o .s) (.cons (.o .s) (.cons (.o .s) .nil))))))) (fv := (.sh false)) g.g h.k_Table c_Table_brought_down 3 (dy_meth (F := [.s false, .s false, .s false, (.dt (.m (.cons .s (.cons (.o .s) (.cons (.o .s) (.cons (.o .s) .nil)))))), .s false, .n, .n]) (F1 := [.s false, .s false, .s false, (.dt (.m (.cons .s (.cons (.o .s) (.cons (.o .s) (.cons (.o .s) .nil)))))), .s false, .n, .n]) (fl := (.dt (.m (.cons .s (.cons (.o .s) (.cons (.o .s) (.cons (.o .s) .nil))))))) g.g h.k_Table c_Table_costs_row 3 (da_cons (de_add (de_var g.g.toGv 2 (fl := .s false)) (de_lc (F1 := [.s false, .s false, .s false, (.dt (.m (.cons .s (.cons (.o .s) (.cons (.o .s) (.cons (.o .s) .nil)))))), .s false, .n, .n]) (F2 := [.s false, .s false, .s false, .n, .s false, .n, .s false]) (F3 := [.s false, .s false, .s false, .n, .s false, .n, .s false]) (F4 := [.s false, .s false, .s false, .n, .s false, .n, .s false]) (f := (.uq true)) g.g [("one", 6)] (di_list g.g (de_var g.g.toGv 0 (fl := .s false))) (blk_by (by decide +kernel)) (fun X' gb fb => (tg_nameB gb.toGv 6)) (fun X' gb => dts_nil) (fun X' gb => (de_fl (de_glo gb.toGv h.g_NOUGHT))))) da_nil))))
  (ds_cons (ds_if (F := [.s false, .s false, .s false, (.dt (.m (.cons .s (.cons (.o .s) (.cons (.o .s) (.cons (.o .s) .nil)))))), .s false, .s false, .n]) (F1 := [.s false, .s false, .s false, (.dt (.m (.cons .s (.cons (.o .s) (.cons (.o .s) (.cons (.o .s) .nil)))))), .s false, .s false, .n]) (Fo := [.s false, .s false, .s false, (.dt (.m (.cons .s (.cons (.o .s) (.cons (.o .s) (.cons (.o .s) .nil)))))), .s false, .s false, .n]) (dt_cmp opr_isnot (ops_is true) (de_var g.g.toGv 5 (fl := .s false)) de_non)
 (ds_one (ds_ret (de_new (F := [.s false, .s false, .s false, (.dt (.m (.cons .s (.cons (.o .s) (.cons (.o .s) (.cons (.o .s) .nil)))))), .s false, .s false, .n]) (F1 := [.s false, .s false, .s false, .s false, .s false, .s false, .n]) (de_tup (da_cons (de_str "endless") (da_cons (de_meth0 g.g h.k_Table c_Table_solution (de_var g.g.toGv 3 (fl := .s false))) (da_cons (de_meth g.g h.k_Table c_Table_way (de_var g.g.toGv 3 (fl := .s false)) (da_cons (de_var g.g.toGv 5 (fl := .s false)) da_nil)) da_nil)))))))
 ds_nil)
  (ds_one (ds_ret (de_new (F := [.s false, .s false, .s false, (.dt (.m (.cons .s (.cons (.o .s) (.cons (.o .s) (.cons (.o .s) .nil)))))), .s false, .s false, .n]) (F1 := [.s false, .s false, .s false, .s false, .s false, .s false, .n]) (de_tup (da_cons (de_str "least") (da_cons (de_call g.g c_rest_of (da_cons (de_glo g.g.toGv h.g_NOUGHT) (da_cons (de_ix g.g.toGv (de_var g.g.toGv 4 (fl := .s false)) (de_neg (de_int 1))) da_nil))) (da_cons (de_meth0 g.g h.k_Table c_Table_solution (de_var g.g.toGv 3 (fl := .s false))) (da_cons (de_meth g.g h.k_Table c_Table_prices (de_var g.g.toGv 3 (fl := .s false)) (da_cons (de_var g.g.toGv 4 (fl := .s false)) (da_cons (de_glo g.g.toGv h.g_NOUGHT) da_nil))) da_nil)))))))))))))))
def s__law_under : EvS := (sRet (eB2 oLt (eFl (eB2 oMul (eB2 oIx (eVar 0) (eC (.int 0))) (eB2 oIx (eVar 1) (eC (.int 1))))) (eFl (eB2 oMul (eB2 oIx (eVar 1) (eC (.int 0))) (eB2 oIx (eVar 0) (eC (.int 1)))))))
def f__law_under : List D → Rs D := runF 0 s__law_under
abbrev n__law_under : List Str := ["_law_one", "_law_other"]
theorem d__law_under {G : Gb} (h : Fx G) (X : Cx) (W : WX) (g : Gs G n__law_under (defScope t__law_under) 0 W X) : PSs X (defBody t__law_under) (TSv G ⟨true, W, []⟩ (F0 2 0) [] s__law_under) :=
  (ds_one (ds_ret (de_cmp op_lt (ops_CI fun i j => decide (i < j)) (de_fl (de_mul (de_ix g.g.toGv (de_var g.g.toGv 0 (fl := .s false)) (de_int 0)) (de_ix g.g.toGv (de_var g.g.toGv 1 (fl := .s false)) (de_int 1)))) (de_fl (de_mul (de_ix g.g.toGv (de_var g.g.toGv 1 (fl := .s false)) (de_int 0)) (de_ix g.g.toGv (de_var g.g.toGv 0 (fl := .s false)) (de_int 1)))))))
def s__law_ratio : EvS := (sSeq (sIf (tO (tNt (tV (eIsi .tuple (eVar 0)))) (tV (eB2 oNe (eBi oLen (aCons (eVar 0) aNil)) (eC (.int 2)))))
 (sRet (eC (.bl false)))
 sNil)
  (sSeq (sFor (iT (eVar 0)) (set1 1)
 (sIf (tO (tNt (tV (eIsi .int (eVar 1)))) (tV (eIsi .bool (eVar 1))))
 (sRet (eC (.bl false)))
 sNil))
  (sRet (eAn (eB2 oGt (eB2 oIx (eVar 0) (eC (.int 1))) (eC (.int 0))) (eB2 oEq (eCall f__law_low (aCons (eB2 oIx (eVar 0) (eC (.int 0))) (aCons (eB2 oIx (eVar 0) (eC (.int 1))) aNil))) (eVar 0))))))
def f__law_ratio : List D → Rs D := runF 1 s__law_ratio
abbrev n__law_ratio : List Str := ["_law_found", "_law_part"]
theorem d__law_ratio {G : Gb} (h : Fx G) (c__law_low : Cal G 1 "_law_low" true 2 f__law_low) (X : Cx) (W : WX) (g : Gs G n__law_ratio (defScope t__law_ratio) 1 W X) : PSs X (defBody t__law_ratio) (TSv G ⟨true, W, []⟩ (F0 1 1) [] s__law_ratio) :=
  (ds_cons (ds_if (F := [.s false, .n]) (F1 := [.s false, .n]) (Fo := [.s false, .n]) (dt_w (dw_or (dt_not (dt_val (de_isi g.g.toGv .tuple h.b_isinstance h.b_tuple (de_var g.g.toGv 0 (fl := .s false)) tboot_tuple))) (dw_or1 (dt_cmp (opr_neG g.g.toGv) ops_ne (de_len g.g.toGv h.b_len (da_cons (de_var g.g.toGv 0 (fl := .s false)) da_nil)) (de_int 2)))))
 (ds_one (ds_ret (de_bl false)))
 ds_nil)
  (ds_cons (ds_for (F := [.s false, .n]) (F1 := [.s false, .n]) (F2 := [.s false, .s false]) (Fh := [.s false, .n]) g (di_tup g.g (de_var g.g.toGv 0 (fl := .s false))) (tg_name g.g.toGv g.fn 1)
 (dss_wk (F := [.s false, .s false]) (F1 := [.s false, .s false]) (F2 := [.s false, .n]) (ds_one (ds_if (F := [.s false, .s false]) (F1 := [.s false, .s false]) (Fo := [.s false, .s false]) (dt_w (dw_or (dt_not (dt_val (de_isi g.g.toGv .int h.b_isinstance h.b_int (de_var g.g.toGv 1 (fl := .s false)) tboot_int))) (dw_or1 (dt_val (de_isi g.g.toGv .bool h.b_isinstance h.b_bool (de_var g.g.toGv 1 (fl := .s false)) tboot_bool)))))
 (ds_one (ds_ret (de_bl false)))
 ds_nil))))
  (ds_one (ds_ret (de_and (de_cmp op_gt (ops_CI fun i j => decide (j < i)) (de_ix g.g.toGv (de_var g.g.toGv 0 (fl := .s false)) (de_int 1)) (de_int 0)) (de_one (de_cmp (opr_eqG g.g.toGv) ops_eq (de_call g.g c__law_low (da_cons (de_ix g.g.toGv (de_var g.g.toGv 0 (fl := .s false)) (de_int 0)) (da_cons (de_ix g.g.toGv (de_var g.g.toGv 0 (fl := .s false)) (de_int 1)) da_nil))) (de_var g.g.toGv 0 (fl := .s false)))))))))
def s__law_list : EvS := (sSeq (sIf (tO (tNt (tV (eIsi .list (eVar 0)))) (tV (eB2 oNe (eBi oLen (aCons (eVar 0) aNil)) (eVar 1))))
 (sRet (eC (.bl false)))
 sNil)
  (sRet (eBi oAll (aCons (eLc [2] (iL (eVar 0)) (set1 2) (fun _ => .ok true) (eCall f__law_ratio (aCons (eVar 2) aNil))) aNil))))
def f__law_list : List D → Rs D := runF 1 s__law_list
abbrev n__law_list : List Str := ["_law_found", "_law_many", "_law_one"]
theorem d__law_list {G : Gb} (h : Fx G) (c__law_ratio : Cal G 2 "_law_ratio" true 1 f__law_ratio) (X : Cx) (W : WX) (g : Gs G n__law_list (defScope t__law_list) 2 W X) : PSs X (defBody t__law_list) (TSv G ⟨true, W, []⟩ (F0 2 1) [] s__law_list) :=
  (ds_cons (ds_if (F := [.s false, .s false, .n]) (F1 := [.s false, .s false, .n]) (Fo := [.s false, .s false, .n]) (dt_w (dw_or (dt_not (dt_val (de_isi g.g.toGv .list h.b_isinstance h.b_list (de_var g.g.toGv 0 (fl := .s false)) tboot_list))) (dw_or1 (dt_cmp (opr_neG g.g.toGv) ops_ne (de_len g.g.toGv h.b_len (da_cons (de_var g.g.toGv 0 (fl := .s false)) da_nil)) (de_var g.g.toGv 1 (fl := .s false))))))
 (ds_one (ds_ret (de_bl false)))
 ds_nil)
  (ds_one (ds_ret (de_all g.g h.b_all (da_cons (de_lc (F1 := [.s false, .s false, .n]) (F2 := [.s false, .s false, .s false]) (F3 := [.s false, .s false, .s false]) (F4 := [.s false, .s false, .s false]) (f := (.uq true)) g.g [("_law_one", 2)] (di_list g.g (de_var g.g.toGv 0 (fl := .s false))) (blk_by (by decide +kernel)) (fun X' gb fb => (tg_nameB gb.toGv 2)) (fun X' gb => dts_nil) (fun X' gb => (de_call gb c__law_ratio (da_cons (de_var gb.toGv 2 (fl := .s false)) da_nil)))) da_nil)))))
def s__law_solves : EvS := (sSeq (sIf (tO (tNt (tV (eCall f__law_list (aCons (eVar 2) (aCons (eVar 3) aNil))))) (tNt (tV (eBi oAll (aCons (eLc [6] (iL (eVar 2)) (set1 6) (fun _ => .ok true) (eB2 oGe (eB2 oIx (eVar 6) (eC (.int 0))) (eC (.int 0)))) aNil)))))
 (sRet (eC (.bl false)))
 sNil)
  (sRet (eBi oAll (aCons (eLc [4, 5] (iZp (aCons (eVar 0) (aCons (eVar 1) aNil))) (setT [4, 5]) (fun _ => .ok true) (eB2 oEq (eCall f__law_dot (aCons (eVar 4) (aCons (eVar 2) aNil))) (eVar 5))) aNil))))
def f__law_solves : List D → Rs D := runF 3 s__law_solves
abbrev n__law_solves : List Str := ["_law_rows", "_law_rights", "_law_found", "_law_many", "_law_row", "_law_right", "_law_one"]
theorem d__law_solves {G : Gb} (h : Fx G) (c__law_list : Cal G 3 "_law_list" true 2 f__law_list) (c__law_dot : Cal G 4 "_law_dot" true 2 f__law_dot) (X : Cx) (W : WX) (g : Gs G n__law_solves (defScope t__law_solves) 4 W X) : PSs X (defBody t__law_solves) (TSv G ⟨true, W, []⟩ (F0 4 3) [] s__law_solves) :=
  (ds_cons (ds_if (F := [.s false, .s false, .s false, .s false, .n, .n, .n]) (F1 := [.s false, .s false, .s false, .s false, .n, .n, .n]) (Fo := [.s false, .s false, .s false, .s false, .n, .n, .n]) (dt_w (dw_or (dt_not (dt_val (de_call g.g c__law_list (da_cons (de_var g.g.toGv 2 (fl := .s false)) (da_cons (de_var g.g.toGv 3 (fl := .s false)) da_nil))))) (dw_or1 (dt_not (dt_val (de_all g.g h.b_all (da_cons (de_lc (F1 := [.s false, .s false, .s false, .s false, .n, .n, .n]) (F2 := [.s false, .s false, .s false, .s false, .n, .n, .s false]) (F3 := [.s false, .s false, .s false, .s false, .n, .n, .s false]) (F4 := [.s false, .s false, .s false, .s false, .n, .n, .s false]) (f := (.uq true)) g.g [("_law_one", 6)] (di_list g.g (de_var g.g.toGv 2 (fl := .s false))) (blk_by (by decide +kernel)) (fun X' gb fb => (tg_nameB gb.toGv 6)) (fun X' gb => dts_nil) (fun X' gb => (de_cmp op_ge (ops_CI fun i j => decide (j ≤ i)) (de_ix gb.toGv (de_var gb.toGv 6 (fl := .s false)) (de_int 0)) (de_int 0)))) da_nil)))))))
 (ds_one (ds_ret (de_bl false)))
 ds_nil)
  (ds_one (ds_ret (de_all g.g h.b_all (da_cons (de_lc (F1 := [.s false, .s false, .s false, .s false, .n, .n, .n]) (F2 := [.s false, .s false, .s false, .s false, .s false, .s false, .n]) (F3 := [.s false, .s false, .s false, .s false, .s false, .s false, .n]) (F4 := [.s false, .s false, .s false, .s false, .s false, .s false, .n]) (f := (.uq true)) g.g [("_law_row", 4), ("_law_right", 5)] (di_zip g.g h.b_zip (da_cons (de_var g.g.toGv 0 (fl := .s false)) (da_cons (de_var g.g.toGv 1 (fl := .s false)) da_nil))) (blk_by (by decide +kernel)) (fun X' gb fb => (tg_tupL gb [4, 5])) (fun X' gb => dts_nil) (fun X' gb => (de_cmp (opr_eqG gb.toGv) ops_eq (de_call gb c__law_dot (da_cons (de_var gb.toGv 4 (fl := .s false)) (da_cons (de_var gb.toGv 2 (fl := .s false)) da_nil))) (de_var gb.toGv 5 (fl := .s false))))) da_nil)))))
def s__law_column : EvS := (sRet (eLc [2] (iL (eVar 0)) (set1 2) (fun _ => .ok true) (eFl (eB2 oIx (eVar 2) (eVar 1)))))
def f__law_column : List D → Rs D := runF 1 s__law_column
abbrev n__law_column : List Str := ["_law_rows", "_law_k", "_law_row"]
theorem d__law_column {G : Gb} (h : Fx G) (X : Cx) (W : WX) (g : Gs G n__law_column (defScope t__law_column) 0 W X) : PSs X (defBody t__law_column) (TSv G ⟨true, W, []⟩ (F0 2 1) [] s__law_column) :=
  (ds_one (ds_ret (de_lc (F1 := [.s false, .s false, .n]) (F2 := [.s false, .s false, .s false]) (F3 := [.s false, .s false, .s false]) (F4 := [.s false, .s false, .s false]) (f := (.uq true)) g.g [("_law_row", 2)] (di_list g.g (de_var g.g.toGv 0 (fl := .s false))) (blk_by (by decide +kernel)) (fun X' gb fb => (tg_nameB gb.toGv 2)) (fun X' gb => dts_nil) (fun X' gb => (de_fl (de_ix gb.toGv (de_var gb.toGv 2 (fl := .s false)) (de_var gb.toGv 1 (fl := .s false))))))))
def s__law_least : EvS := (sSeq (sIf (tO (tV (eB2 oNe (eBi oLen (aCons (eVar 3) aNil)) (eC (.int 4)))) (tO (tNt (tV (eCall f__law_ratio (aCons (eB2 oIx (eVar 3) (eC (.int 1))) aNil)))) (tNt (tV (eCall f__law_solves (aCons (eVar 0) (aCons (eVar 1) (aCons (eB2 oIx (eVar 3) (eC (.int 2))) (aCons (eBi oLen (aCons (eVar 2) aNil)) aNil)))))))))
 (sRet (eC (.bl false)))
 sNil)
  (sSeq (sIf (tO (tNt (tV (eCall f__law_list (aCons (eB2 oIx (eVar 3) (eC (.int 3))) (aCons (eBi oLen (aCons (eVar 0) aNil)) aNil))))) (tV (eB2 oNe (eCall f__law_dot (aCons (eVar 2) (aCons (eB2 oIx (eVar 3) (eC (.int 2))) aNil))) (eB2 oIx (eVar 3) (eC (.int 1))))))
 (sRet (eC (.bl false)))
 sNil)
  (sSeq (sFor (iRn (aCons (eBi oLen (aCons (eVar 2) aNil)) aNil)) (set1 4)
 (sIf (tV (eCall f__law_under (aCons (eB2 oIx (eVar 2) (eVar 4)) (aCons (eCall f__law_dot (aCons (eCall f__law_column (aCons (eVar 0) (aCons (eVar 4) aNil))) (aCons (eB2 oIx (eVar 3) (eC (.int 3))) aNil))) aNil))))
 (sRet (eC (.bl false)))
 sNil))
  (sRet (eB2 oEq (eCall f__law_dot (aCons (eVar 1) (aCons (eB2 oIx (eVar 3) (eC (.int 3))) aNil))) (eB2 oIx (eVar 3) (eC (.int 1))))))))
def f__law_least : List D → Rs D := runF 1 s__law_least
abbrev n__law_least : List Str := ["_law_rows", "_law_rights", "_law_costs", "_law_told", "_law_k"]
theorem d__law_least {G : Gb} (h : Fx G) (c__law_under : Cal G 1 "_law_under" true 2 f__law_under) (c__law_dot : Cal G 4 "_law_dot" true 2 f__law_dot) (c__law_ratio : Cal G 2 "_law_ratio" true 1 f__law_ratio) (c__law_solves : Cal G 5 "_law_solves" true 4 f__law_solves) (c__law_list : Cal G 3 "_law_list" true 2 f__law_list) (c__law_column : Cal G 1 "_law_column" true 2 f__law_column) (X : Cx) (W : WX) (g : Gs G n__law_least (defScope t__law_least) 5 W X) : PSs X (defBody t__law_least) (TSv G ⟨true, W, []⟩ (F0 4 1) [] s__law_least) :=
  (ds_cons (ds_if (F := [.s false, .s false, .s false, .s false, .n]) (F1 := [.s false, .s false, .s false, .s false, .n]) (Fo := [.s false, .s false, .s false, .s false, .n]) (dt_w (dw_or (dt_cmp (opr_neG g.g.toGv) ops_ne (de_len g.g.toGv h.b_len (da_cons (de_var g.g.toGv 3 (fl := .s false)) da_nil)) (de_int 4)) (dw_or (dt_not (dt_val (de_call g.g c__law_ratio (da_cons (de_ix g.g.toGv (de_var g.g.toGv 3 (fl := .s false)) (de_int 1)) da_nil)))) (dw_or1 (dt_not (dt_val (de_call g.g c__law_solves (da_cons (de_var g.g.toGv 0 (fl := .s false)) (da_cons (de_var g.g.toGv 1 (fl := .s false)) (da_cons (de_ix g.g.toGv (de_var g.g.toGv 3 (fl := .s false)) (de_int 2)) (da_cons (de_len g.g.toGv h.b_len (da_cons (de_var g.g.toGv 2 (fl := .s false)) da_nil)) da_nil)))))))))))
 (ds_one (ds_ret (de_bl false)))
 ds_nil)
  (ds_cons (ds_if (F := [.s false, .s false, .s false, .s false, .n]) (F1 := [.s false, .s false, .s false, .s false, .n]) (Fo := [.s false, .s false, .s false, .s false, .n]) (dt_w (dw_or (dt_not (dt_val (de_call g.g c__law_list (da_cons (de_ix g.g.toGv (de_var g.g.toGv 3 (fl := .s false)) (de_int 3)) (da_cons (de_len g.g.toGv h.b_len (da_cons (de_var g.g.toGv 0 (fl := .s false)) da_nil)) da_nil))))) (dw_or1 (dt_cmp (opr_neG g.g.toGv) ops_ne (de_call g.g c__law_dot (da_cons (de_var g.g.toGv 2 (fl := .s false)) (da_cons (de_ix g.g.toGv (de_var g.g.toGv 3 (fl := .s false)) (de_int 2)) da_nil))) (de_ix g.g.toGv (de_var g.g.toGv 3 (fl := .s false)) (de_int 1))))))
 (ds_one (ds_ret (de_bl false)))
 ds_nil)
  (ds_cons (ds_for (F := [.s false, .s false, .s false, .s false, .n]) (F1 := [.s false, .s false, .s false, .s false, .n]) (F2 := [.s false, .s false, .s false, .s false, .s true]) (Fh := [.s false, .s false, .s false, .s false, .n]) g (di_range1 g.g h.b_range (da_cons (de_len g.g.toGv h.b_len (da_cons (de_var g.g.toGv 2 (fl := .s false)) da_nil)) da_nil)) (tg_name g.g.toGv g.fn 4)
 (dss_wk (F := [.s false, .s false, .s false, .s false, .s true]) (F1 := [.s false, .s false, .s false, .s false, .s true]) (F2 := [.s false, .s false, .s false, .s false, .n]) (ds_one (ds_if (F := [.s false, .s false, .s false, .s false, .s true]) (F1 := [.s false, .s false, .s false, .s false, .s true]) (Fo := [.s false, .s false, .s false, .s false, .s true]) (dt_val (de_call g.g c__law_under (da_cons (de_ix g.g.toGv (de_var g.g.toGv 2 (fl := .s false)) (de_var g.g.toGv 4 (fl := .s true))) (da_cons (de_call g.g c__law_dot (da_cons (de_call g.g c__law_column (da_cons (de_var g.g.toGv 0 (fl := .s false)) (da_cons (de_var g.g.toGv 4 (fl := .s true)) da_nil))) (da_cons (de_ix g.g.toGv (de_var g.g.toGv 3 (fl := .s false)) (de_int 3)) da_nil))) da_nil))))
 (ds_one (ds_ret (de_bl false)))
 ds_nil))))
  (ds_one (ds_ret (de_cmp (opr_eqG g.g.toGv) ops_eq (de_call g.g c__law_dot (da_cons (de_var g.g.toGv 1 (fl := .s false)) (da_cons (de_ix g.g.toGv (de_var g.g.toGv 3 (fl := .s false)) (de_int 3)) da_nil))) (de_ix g.g.toGv (de_var g.g.toGv 3 (fl := .s false)) (de_int 1))))))))
def s__law_none : EvS := (sSeq (sIf (tO (tV (eB2 oNe (eBi oLen (aCons (eVar 3) aNil)) (eC (.int 2)))) (tNt (tV (eCall f__law_list (aCons (eB2 oIx (eVar 3) (eC (.int 1))) (aCons (eBi oLen (aCons (eVar 0) aNil)) aNil))))))
 (sRet (eC (.bl false)))
 sNil)
  (sSeq (sFor (iRn (aCons (eBi oLen (aCons (eVar 2) aNil)) aNil)) (set1 4)
 (sIf (tV (eB2 oGt (eB2 oIx (eCall f__law_dot (aCons (eCall f__law_column (aCons (eVar 0) (aCons (eVar 4) aNil))) (aCons (eB2 oIx (eVar 3) (eC (.int 1))) aNil))) (eC (.int 0))) (eC (.int 0))))
 (sRet (eC (.bl false)))
 sNil))
  (sRet (eB2 oGt (eB2 oIx (eCall f__law_dot (aCons (eVar 1) (aCons (eB2 oIx (eVar 3) (eC (.int 1))) aNil))) (eC (.int 0))) (eC (.int 0))))))
def f__law_none : List D → Rs D := runF 1 s__law_none
abbrev n__law_none : List Str := ["_law_rows", "_law_rights", "_law_costs", "_law_told", "_law_k"]
theorem d__law_none {G : Gb} (h : Fx G) (c__law_list : Cal G 3 "_law_list" true 2 f__law_list) (c__law_dot : Cal G 4 "_law_dot" true 2 f__law_dot) (c__law_column : Cal G 1 "_law_column" true 2 f__law_column) (X : Cx) (W : WX) (g : Gs G n__law_none (defScope t__law_none) 4 W X) : PSs X (defBody t__law_none) (TSv G ⟨true, W, []⟩ (F0 4 1) [] s__law_none) :=
  (ds_cons (ds_if (F := [.s false, .s false, .s false, .s false, .n]) (F1 := [.s false, .s false, .s false, .s false, .n]) (Fo := [.s false, .s false, .s false, .s false, .n]) (dt_w (dw_or (dt_cmp (opr_neG g.g.toGv) ops_ne (de_len g.g.toGv h.b_len (da_cons (de_var g.g.toGv 3 (fl := .s false)) da_nil)) (de_int 2)) (dw_or1 (dt_not (dt_val (de_call g.g c__law_list (da_cons (de_ix g.g.toGv (de_var g.g.toGv 3 (fl := .s false)) (de_int 1)) (da_cons (de_len g.g.toGv h.b_len (da_cons (de_var g.g.toGv 0 (fl := .s false)) da_nil)) da_nil))))))))
 (ds_one (ds_ret (de_bl false)))
 ds_nil)
  (ds_cons (ds_for (F := [.s false, .s false, .s false, .s false, .n]) (F1 := [.s false, .s false, .s false, .s false, .n]) (F2 := [.s false, .s false, .s false, .s false, .s true]) (Fh := [.s false, .s false, .s false, .s false, .n]) g (di_range1 g.g h.b_range (da_cons (de_len g.g.toGv h.b_len (da_cons (de_var g.g.toGv 2 (fl := .s false)) da_nil)) da_nil)) (tg_name g.g.toGv g.fn 4)
 (dss_wk (F := [.s false, .s false, .s false, .s false, .s true]) (F1 := [.s false, .s false, .s false, .s false, .s true]) (F2 := [.s false, .s false, .s false, .s false, .n]) (ds_one (ds_if (F := [.s false, .s false, .s false, .s false, .s true]) (F1 := [.s false, .s false, .s false, .s false, .s true]) (Fo := [.s false, .s false, .s false, .s false, .s true]) (dt_cmp op_gt (ops_CI fun i j => decide (j < i)) (de_ix g.g.toGv (de_call g.g c__law_dot (da_cons (de_call g.g c__law_column (da_cons (de_var g.g.toGv 0 (fl := .s false)) (da_cons (de_var g.g.toGv 4 (fl := .s true)) da_nil))) (da_cons (de_ix g.g.toGv (de_var g.g.toGv 3 (fl := .s false)) (de_int 1)) da_nil))) (de_int 0)) (de_int 0))
 (ds_one (ds_ret (de_bl false)))
 ds_nil))))
  (ds_one (ds_ret (de_cmp op_gt (ops_CI fun i j => decide (j < i)) (de_ix g.g.toGv (de_call g.g c__law_dot (da_cons (de_var g.g.toGv 1 (fl := .s false)) (da_cons (de_ix g.g.toGv (de_var g.g.toGv 3 (fl := .s false)) (de_int 1)) da_nil))) (de_int 0)) (de_int 0))))))
def s__law_endless : EvS := (sSeq (sIf (tO (tV (eB2 oNe (eBi oLen (aCons (eVar 3) aNil)) (eC (.int 3)))) (tNt (tV (eCall f__law_solves (aCons (eVar 0) (aCons (eVar 1) (aCons (eB2 oIx (eVar 3) (eC (.int 1))) (aCons (eBi oLen (aCons (eVar 2) aNil)) aNil))))))))
 (sRet (eC (.bl false)))
 sNil)
  (sSeq (sAs 4 (eLc [5] (iL (eVar 0)) (set1 5) (fun _ => .ok true) (eTup (aCons (eC (.int 0)) (aCons (eC (.int 1)) aNil)))))
  (sRet (eAn (eCall f__law_solves (aCons (eVar 0) (aCons (eVar 4) (aCons (eB2 oIx (eVar 3) (eC (.int 2))) (aCons (eBi oLen (aCons (eVar 2) aNil)) aNil))))) (eB2 oLt (eB2 oIx (eCall f__law_dot (aCons (eVar 2) (aCons (eB2 oIx (eVar 3) (eC (.int 2))) aNil))) (eC (.int 0))) (eC (.int 0)))))))
def f__law_endless : List D → Rs D := runF 2 s__law_endless
abbrev n__law_endless : List Str := ["_law_rows", "_law_rights", "_law_costs", "_law_told", "_law_noughts", "_law_row"]
theorem d__law_endless {G : Gb} (h : Fx G) (c__law_solves : Cal G 5 "_law_solves" true 4 f__law_solves) (c__law_dot : Cal G 4 "_law_dot" true 2 f__law_dot) (X : Cx) (W : WX) (g : Gs G n__law_endless (defScope t__law_endless) 5 W X) : PSs X (defBody t__law_endless) (TSv G ⟨true, W, []⟩ (F0 4 2) [] s__law_endless) :=
  (ds_cons (ds_if (F := [.s false, .s false, .s false, .s false, .n, .n]) (F1 := [.s false, .s false, .s false, .s false, .n, .n]) (Fo := [.s false, .s false, .s false, .s false, .n, .n]) (dt_w (dw_or (dt_cmp (opr_neG g.g.toGv) ops_ne (de_len g.g.toGv h.b_len (da_cons (de_var g.g.toGv 3 (fl := .s false)) da_nil)) (de_int 3)) (dw_or1 (dt_not (dt_val (de_call g.g c__law_solves (da_cons (de_var g.g.toGv 0 (fl := .s false)) (da_cons (de_var g.g.toGv 1 (fl := .s false)) (da_cons (de_ix g.g.toGv (de_var g.g.toGv 3 (fl := .s false)) (de_int 1)) (da_cons (de_len g.g.toGv h.b_len (da_cons (de_var g.g.toGv 2 (fl := .s false)) da_nil)) da_nil))))))))))
 (ds_one (ds_ret (de_bl false)))
 ds_nil)
  (ds_cons (ds_asLc (F1 := [.s false, .s false, .s false, .s false, .n, .n]) (F2 := [.s false, .s false, .s false, .s false, .n, .s false]) (F3 := [.s false, .s false, .s false, .s false, .n, .s false]) (F4 := [.s false, .s false, .s false, .s false, .n, .s false]) (f := (.uq true)) g 4 [("_law_row", 5)] (di_list g.g (de_var g.g.toGv 0 (fl := .s false))) (blk_by (by decide +kernel)) (fun X' gb fb => (tg_nameB gb.toGv 5)) (fun X' gb => dts_nil) (fun X' gb => (de_tup (da_cons (de_int 0) (da_cons (de_int 1) da_nil)))))
  (ds_one (ds_ret (de_and (de_call g.g c__law_solves (da_cons (de_var g.g.toGv 0 (fl := .s false)) (da_cons (de_var g.g.toGv 4 (fl := .o true)) (da_cons (de_ix g.g.toGv (de_var g.g.toGv 3 (fl := .s false)) (de_int 2)) (da_cons (de_len g.g.toGv h.b_len (da_cons (de_var g.g.toGv 2 (fl := .s false)) da_nil)) da_nil))))) (de_one (de_cmp op_lt (ops_CI fun i j => decide (i < j)) (de_ix g.g.toGv (de_call g.g c__law_dot (da_cons (de_var g.g.toGv 2 (fl := .s false)) (da_cons (de_ix g.g.toGv (de_var g.g.toGv 3 (fl := .s false)) (de_int 2)) da_nil))) (de_int 0)) (de_int 0))))))))
def s__law_holds : EvS := (sSeq (sIf (tO (tNt (tV (eIsi .tuple (eVar 3)))) (tO (tV (eB2 oEq (eBi oLen (aCons (eVar 3) aNil)) (eC (.int 0)))) (tNt (tV (eIsi .str (eB2 oIx (eVar 3) (eC (.int 0))))))))
 (sRet (eC (.bl false)))
 sNil)
  (sSeq (sIf (tV (eB2 oEq (eB2 oIx (eVar 3) (eC (.int 0))) (eC (.str "least"))))
 (sRet (eCall f__law_least (aCons (eVar 0) (aCons (eVar 1) (aCons (eVar 2) (aCons (eVar 3) aNil))))))
 sNil)
  (sSeq (sIf (tV (eB2 oEq (eB2 oIx (eVar 3) (eC (.int 0))) (eC (.str "none"))))
 (sRet (eCall f__law_none (aCons (eVar 0) (aCons (eVar 1) (aCons (eVar 2) (aCons (eVar 3) aNil))))))
 sNil)
  (sRet (eAn (eB2 oEq (eB2 oIx (eVar 3) (eC (.int 0))) (eC (.str "endless"))) (eCall f__law_endless (aCons (eVar 0) (aCons (eVar 1) (aCons (eVar 2) (aCons (eVar 3) aNil))))))))))
def f__law_holds : List D → Rs D := runF 0 s__law_holds
abbrev n__law_holds : List Str := ["_law_rows", "_law_rights", "_law_costs", "_law_told"]
theorem d__law_holds {G : Gb} (h : Fx G) (c__law_least : Cal G 6 "_law_least" true 4 f__law_least) (c__law_none : Cal G 5 "_law_none" true 4 f__law_none) (c__law_endless : Cal G 6 "_law_endless" true 4 f__law_endless) (X : Cx) (W : WX) (g : Gs G n__law_holds (defScope t__law_holds) 6 W X) : PSs X (defBody t__law_holds) (TSv G ⟨true, W, []⟩ (F0 4 0) [] s__law_holds) :=
  (ds_cons (ds_if (F := [.s false, .s false, .s false, .s false]) (F1 := [.s false, .s false, .s false, .s false]) (Fo := [.s false, .s false, .s false, .s false]) (dt_w (dw_or (dt_not (dt_val (de_isi g.g.toGv .tuple h.b_isinstance h.b_tuple (de_var g.g.toGv 3 (fl := .s false)) tboot_tuple))) (dw_or (dt_cmp (opr_eqG g.g.toGv) ops_eq (de_len g.g.toGv h.b_len (da_cons (de_var g.g.toGv 3 (fl := .s false)) da_nil)) (de_int 0)) (dw_or1 (dt_not (dt_val (de_isi g.g.toGv .str h.b_isinstance h.b_str (de_ix g.g.toGv (de_var g.g.toGv 3 (fl := .s false)) (de_int 0)) tboot_str)))))))
 (ds_one (ds_ret (de_bl false)))
 ds_nil)
  (ds_cons (ds_if (F := [.s false, .s false, .s false, .s false]) (F1 := [.s false, .s false, .s false, .s false]) (Fo := [.s false, .s false, .s false, .s false]) (dt_cmp (opr_eqG g.g.toGv) ops_eq (de_ix g.g.toGv (de_var g.g.toGv 3 (fl := .s false)) (de_int 0)) (de_str "least"))
 (ds_one (ds_ret (de_call g.g c__law_least (da_cons (de_var g.g.toGv 0 (fl := .s false)) (da_cons (de_var g.g.toGv 1 (fl := .s false)) (da_cons (de_var g.g.toGv 2 (fl := .s false)) (da_cons (de_var g.g.toGv 3 (fl := .s false)) da_nil)))))))
 ds_nil)
  (ds_cons (ds_if (F := [.s false, .s false, .s false, .s false]) (F1 := [.s false, .s false, .s false, .s false]) (Fo := [.s false, .s false, .s false, .s false]) (dt_cmp (opr_eqG g.g.toGv) ops_eq (de_ix g.g.toGv (de_var g.g.toGv 3 (fl := .s false)) (de_int 0)) (de_str "none"))
 (ds_one (ds_ret (de_call g.g c__law_none (da_cons (de_var g.g.toGv 0 (fl := .s false)) (da_cons (de_var g.g.toGv 1 (fl := .s false)) (da_cons (de_var g.g.toGv 2 (fl := .s false)) (da_cons (de_var g.g.toGv 3 (fl := .s false)) da_nil)))))))
 ds_nil)
  (ds_one (ds_ret (de_and (de_cmp (opr_eqG g.g.toGv) ops_eq (de_ix g.g.toGv (de_var g.g.toGv 3 (fl := .s false)) (de_int 0)) (de_str "endless")) (de_one (de_call g.g c__law_endless (da_cons (de_var g.g.toGv 0 (fl := .s false)) (da_cons (de_var g.g.toGv 1 (fl := .s false)) (da_cons (de_var g.g.toGv 2 (fl := .s false)) (da_cons (de_var g.g.toGv 3 (fl := .s false)) da_nil))))))))))))
def s__law_asked : EvS := (sSeq (sAs 3 (eTup (aCons (eLc [5] (iL (eVar 0)) (set1 5) (fun _ => .ok true) (eBi oList (aCons (eVar 5) aNil))) (aCons (eBi oList (aCons (eVar 1) aNil)) (aCons (eBi oList (aCons (eVar 2) aNil)) aNil)))))
  (sSeq (sAs 4 (eCall f_least (aCons (eB2 oIx (eVar 3) (eC (.int 0))) (aCons (eB2 oIx (eVar 3) (eC (.int 1))) (aCons (eB2 oIx (eVar 3) (eC (.int 2))) aNil)))))
  (sSeq (sIf (tO (tV (eB2 oNe (eVar 3) (eTup (aCons (eVar 0) (aCons (eVar 1) (aCons (eVar 2) aNil)))))) (tNt (tV (eCall f__law_holds (aCons (eVar 0) (aCons (eVar 1) (aCons (eVar 2) (aCons (eVar 4) aNil))))))))
 (sRet (eTup (aCons (eC (.str "else")) (aCons (eC (.str "")) aNil))))
 sNil)
  (sRet (eVar 4)))))
def f__law_asked : List D → Rs D := runF 3 s__law_asked
abbrev n__law_asked : List Str := ["_law_rows", "_law_rights", "_law_costs", "_law_handed", "_law_told", "_law_row"]
theorem d__law_asked {G : Gb} (h : Fx G) (c_least : Cal G 9 "least" true 3 f_least) (c__law_holds : Cal G 7 "_law_holds" true 4 f__law_holds) (X : Cx) (W : WX) (g : Gs G n__law_asked (defScope t__law_asked) 9 W X) : PSs X (defBody t__law_asked) (TSv G ⟨true, W, []⟩ (F0 3 3) [] s__law_asked) :=
  (ds_cons (ds_as (F1 := [.s false, .s false, .s false, .n, .n, .n]) (f := (.uq false)) g.g.toGv g.fn 3 (de_tup (da_cons (de_lc (F1 := [.s false, .s false, .s false, .n, .n, .n]) (F2 := [.s false, .s false, .s false, .n, .n, .s false]) (F3 := [.s false, .s false, .s false, .n, .n, .s false]) (F4 := [.s false, .s false, .s false, .n, .n, .s false]) (f := (.uq false)) g.g [("_law_row", 5)] (di_list g.g (de_var g.g.toGv 0 (fl := .s false))) (blk_by (by decide +kernel)) (fun X' gb fb => (tg_nameB gb.toGv 5)) (fun X' gb => dts_nil) (fun X' gb => (de_list gb h.b_list (da_cons (de_var gb.toGv 5 (fl := .s false)) da_nil)))) (da_cons (de_list g.g h.b_list (da_cons (de_var g.g.toGv 1 (fl := .s false)) da_nil)) (da_cons (de_list g.g h.b_list (da_cons (de_var g.g.toGv 2 (fl := .s false)) da_nil)) da_nil)))))
  (ds_cons (ds_as (F1 := [.s false, .s false, .s false, .o false, .n, .n]) (f := (.uq true)) g.g.toGv g.fn 4 (de_call g.g c_least (da_cons (de_ix g.g.toGv (de_var g.g.toGv 3 (fl := .o false)) (de_int 0)) (da_cons (de_ix g.g.toGv (de_var g.g.toGv 3 (fl := .o false)) (de_int 1)) (da_cons (de_ix g.g.toGv (de_var g.g.toGv 3 (fl := .o false)) (de_int 2)) da_nil)))))
  (ds_cons (ds_if (F := [.s false, .s false, .s false, .o false, .o true, .n]) (F1 := [.s false, .s false, .s false, .o false, .o true, .n]) (Fo := [.s false, .s false, .s false, .o false, .o true, .n]) (dt_w (dw_or (dt_cmp (opr_neG g.g.toGv) ops_ne (de_var g.g.toGv 3 (fl := .o false)) (de_tup (da_cons (de_var g.g.toGv 0 (fl := .s false)) (da_cons (de_var g.g.toGv 1 (fl := .s false)) (da_cons (de_var g.g.toGv 2 (fl := .s false)) da_nil))))) (dw_or1 (dt_not (dt_val (de_call g.g c__law_holds (da_cons (de_var g.g.toGv 0 (fl := .s false)) (da_cons (de_var g.g.toGv 1 (fl := .s false)) (da_cons (de_var g.g.toGv 2 (fl := .s false)) (da_cons (de_var g.g.toGv 4 (fl := .o true)) da_nil))))))))))
 (ds_one (ds_ret (de_tup (da_cons (de_str "else") (da_cons (de_str "") da_nil)))))
 ds_nil)
  (ds_one (ds_ret (de_tk g.g.toGv 4 (fl := .o true)))))))
def s_law : EvS := (sSeq (sTu [1, 2, 3] (eCall f__law_table (aCons (eVar 0) aNil)))
  (sSeq (sAs 4 (eB2 oAdd (eSl (eCall f__law_at_least (aCons (eCall f__law_numbers (aCons (eCall f__law_cell_at (aCons (eVar 0) (aCons (eC (.int 8)) aNil))) (aCons (eVar 2) (aCons (eC (.bl false)) aNil)))) aNil)) oNo (oYes (eU1 oNeg (eC (.int 1))))) (eLst (aCons (eTup (aCons (eC (.int 1)) (aCons (eC (.int 1)) aNil))) aNil))))
  (sSeq (sForRows 1 5
 (sSeq (sAs 6 (eFl (eCall f__law_dot (aCons (eSl (eVar 5) oNo (oYes (eU1 oNeg (eC (.int 1))))) (aCons (eSl (eVar 4) oNo (oYes (eU1 oNeg (eC (.int 1))))) aNil)))))
  (sSub 5 (eU1 oNeg (eC (.int 1))) (eTup (aCons (eB2 oSub (eC (.int 0)) (eB2 oIx (eVar 6) (eC (.int 0)))) (aCons (eB2 oIx (eVar 6) (eC (.int 1))) aNil))))))
  (sSeq (sAs 7 (eCall f__law_at_least (aCons (eCall f__law_numbers (aCons (eCall f__law_cell_at (aCons (eVar 0) (aCons (eC (.int 9)) aNil))) (aCons (eVar 2) (aCons (eVar 3) aNil)))) aNil)))
  (sSeq (sAs 8 (eLc [5] (iL (eVar 1)) (set1 5) (fun _ => .ok true) (eCall f__law_dot (aCons (eVar 5) (aCons (eVar 7) aNil)))))
  (sSeq (sAs 9 (eCall f__law_numbers (aCons (eCall f__law_cell_at (aCons (eVar 0) (aCons (eC (.int 10)) aNil))) (aCons (eVar 2) (aCons (eVar 3) aNil)))))
  (sSeq (sAs 6 (eCall f__law_dot (aCons (eSl (eVar 9) oNo (oYes (eU1 oNeg (eC (.int 1))))) (aCons (eSl (eVar 4) oNo (oYes (eU1 oNeg (eC (.int 1))))) aNil))))
  (sSeq (sAs 10 (eTup (aCons (eB2 oAdd (eC (.int 1)) (eB2 oMod (eCall f__law_cell_at (aCons (eVar 0) (aCons (eC (.int 11)) aNil))) (eC (.int 7)))) (aCons (eB2 oAdd (eC (.int 1)) (eB2 oMod (eB2 oDiv (eCall f__law_cell_at (aCons (eVar 0) (aCons (eC (.int 11)) aNil))) (eC (.int 7))) (eC (.int 5)))) aNil))))
  (sSeq (sSub 9 (eU1 oNeg (eC (.int 1))) (eCall f__law_less (aCons (eTup (aCons (eB2 oSub (eC (.int 0)) (eB2 oIx (eVar 6) (eC (.int 0)))) (aCons (eB2 oIx (eVar 6) (eC (.int 1))) aNil))) (aCons (eCall f__law_low (aCons (eB2 oIx (eVar 10) (eC (.int 0))) (aCons (eB2 oIx (eVar 10) (eC (.int 1))) aNil))) aNil))))
  (sRet (eFl (eB2 oEq (eB2 oIx (eCall f__law_asked (aCons (eVar 1) (aCons (eVar 8) (aCons (eVar 9) aNil)))) (eC (.int 0))) (eC (.str "endless"))))))))))))))
def f_law : List D → Rs D := runF 10 s_law
abbrev n_law : List Str := ["_law_script", "_law_rows", "_law_many", "_law_wide", "_law_way", "_law_row", "_law_rest", "_law_drawn_here", "_law_rights", "_law_costs", "_law_less_here"]
theorem d_law {G : Gb} (h : Fx G) (c__law_table : CalT G 3 "_law_table" (some (.o (.o .s))) 1 f__law_table) (c__law_at_least : Cal G 1 "_law_at_least" true 1 f__law_at_least) (c__law_numbers : Cal G 2 "_law_numbers" true 3 f__law_numbers) (c__law_dot : Cal G 4 "_law_dot" true 2 f__law_dot) (c__law_less : Cal G 2 "_law_less" true 2 f__law_less) (c__law_cell_at : Cal G 1 "_law_cell_at" true 2 f__law_cell_at) (c__law_low : Cal G 1 "_law_low" true 2 f__law_low) (c__law_asked : Cal G 10 "_law_asked" true 3 f__law_asked) (X : Cx) (W : WX) (g : Gs G n_law (defScope t_law) 10 W X) : PSs X (defBody t_law) (TSv G ⟨true, W, []⟩ (F0 1 10) [] s_law) :=
  (ds_cons (ds_tuS (F1 := [.s false, .n, .n, .n, .n, .n, .n, .n, .n, .n, .n]) g 1 [2, 3] (dn_call g.g c__law_table (da_cons (de_var g.g.toGv 0 (fl := .s false)) da_nil)))
  (ds_cons (ds_as (F1 := [.s false, (.dt (.o (.o .s))), .s true, .s true, .n, .n, .n, .n, .n, .n, .n]) (f := (.uq true)) g.g.toGv g.fn 4 (de_add (de_sl g.g.toGv (de_call g.g c__law_at_least (da_cons (de_call g.g c__law_numbers (da_cons (de_call g.g c__law_cell_at (da_cons (de_var g.g.toGv 0 (fl := .s false)) (da_cons (de_int 8) da_nil))) (da_cons (de_var g.g.toGv 2 (fl := .s true)) (da_cons (de_bl false) da_nil)))) da_nil)) do_no (do_yes (de_neg (de_int 1)))) (de_lst (da_cons (de_tup (da_cons (de_int 1) (da_cons (de_int 1) da_nil))) da_nil))))
  (ds_cons (ds_forRows (F := [.s false, (.dt (.o (.o .s))), .s true, .s true, .o true, .n, .n, .n, .n, .n, .n]) g 1 5
 (fun a => (dss_wk (F := [.s false, .x a, .s true, .s true, .o true, (.ma (.o .s)), .n, .n, .n, .n, .n]) (F1 := [.s false, .x a, .s true, .s true, .o true, (.ma (.o .s)), .o true, .n, .n, .n, .n]) (F2 := [.s false, .x a, .s true, .s true, .o true, (.ma (.o .s)), .n, .n, .n, .n, .n]) (ds_cons (ds_as (F1 := [.s false, .x a, .s true, .s true, .o true, (.ma (.o .s)), .n, .n, .n, .n, .n]) (f := (.uq true)) g.g.toGv g.fn 6 (de_view (F := [.s false, .x a, .s true, .s true, .o true, (.ma (.o .s)), .n, .n, .n, .n, .n]) (F' := [.s false, .x a, .s true, .s true, .o true, .s false, .n, .n, .n, .n, .n]) (F1 := [.s false, .x a, .s true, .s true, .o true, .s false, .n, .n, .n, .n, .n]) (de_call g.g c__law_dot (da_cons (de_sl g.g.toGv (de_var g.g.toGv 5 (fl := .s false)) do_no (do_yes (de_neg (de_int 1)))) (da_cons (de_sl g.g.toGv (de_var g.g.toGv 4 (fl := .o true)) do_no (do_yes (de_neg (de_int 1)))) da_nil))) (by simp [wkL, SF.wk, VF.slot])))
  (ds_one (ds_subM (F1 := [.s false, .x a, .s true, .s true, .o true, (.ma (.o .s)), .o true, .n, .n, .n, .n]) (F2 := [.s false, .x a, .s true, .s true, .o true, (.ma (.o .s)), .o true, .n, .n, .n, .n]) (f := (.uq true)) (fl := (.ma (.o .s))) g.g.toGv 5 (de_tup (da_cons (de_sub (de_int 0) (de_ix g.g.toGv (de_var g.g.toGv 6 (fl := .o true)) (de_int 0))) (da_cons (de_ix g.g.toGv (de_var g.g.toGv 6 (fl := .o true)) (de_int 1)) da_nil))) (de_neg (de_int 1))))) (by simp [wkL, SF.wk, VF.slot]))))
  (ds_cons (ds_as (F1 := [.s false, (.dt (.o (.o .s))), .s true, .s true, .o true, .n, .n, .n, .n, .n, .n]) (f := (.uq true)) g.g.toGv g.fn 7 (de_call g.g c__law_at_least (da_cons (de_call g.g c__law_numbers (da_cons (de_call g.g c__law_cell_at (da_cons (de_var g.g.toGv 0 (fl := .s false)) (da_cons (de_int 9) da_nil))) (da_cons (de_var g.g.toGv 2 (fl := .s true)) (da_cons (de_var g.g.toGv 3 (fl := .s true)) da_nil)))) da_nil)))
  (ds_cons (ds_asLcN (F := [.s false, (.dt (.o (.o .s))), .s true, .s true, .o true, .n, .n, .o true, .n, .n, .n]) (F1 := [.s false, .s false, .s false, .s false, .s false, .n, .n, .s false, .n, .n, .n]) (F2 := [.s false, .s false, .s false, .s false, .s false, .s false, .n, .s false, .n, .n, .n]) (F3 := [.s false, .s false, .s false, .s false, .s false, .s false, .n, .s false, .n, .n, .n]) (F4 := [.s false, .s false, .s false, .s false, .s false, .s false, .n, .s false, .n, .n, .n]) g 8 [("_law_row", 5)] (di_list g.g (de_var g.g.toGv 1 (fl := .s false))) (blk_by (by decide +kernel)) (fun X' gb fb => (tg_nameB gb.toGv 5)) (fun X' gb => dts_nil) (fun X' gb => (de_call gb c__law_dot (da_cons (de_var gb.toGv 5 (fl := .s false)) (da_cons (de_var gb.toGv 7 (fl := .s false)) da_nil)))))
  (ds_cons (ds_as (F1 := [.s false, (.dt (.o (.o .s))), .s true, .s true, .o true, .n, .n, .o true, .o true, .n, .n]) (f := (.uq true)) g.g.toGv g.fn 9 (de_call g.g c__law_numbers (da_cons (de_call g.g c__law_cell_at (da_cons (de_var g.g.toGv 0 (fl := .s false)) (da_cons (de_int 10) da_nil))) (da_cons (de_var g.g.toGv 2 (fl := .s true)) (da_cons (de_var g.g.toGv 3 (fl := .s true)) da_nil)))))
  (ds_cons (ds_as (F1 := [.s false, (.dt (.o (.o .s))), .s true, .s true, .o true, .n, .n, .o true, .o true, .o true, .n]) (f := (.uq true)) g.g.toGv g.fn 6 (de_call g.g c__law_dot (da_cons (de_sl g.g.toGv (de_var g.g.toGv 9 (fl := .o true)) do_no (do_yes (de_neg (de_int 1)))) (da_cons (de_sl g.g.toGv (de_var g.g.toGv 4 (fl := .o true)) do_no (do_yes (de_neg (de_int 1)))) da_nil))))
  (ds_cons (ds_as (F1 := [.s false, (.dt (.o (.o .s))), .s true, .s true, .o true, .n, .o true, .o true, .o true, .o true, .n]) (f := (.uq true)) g.g.toGv g.fn 10 (de_tup (da_cons (de_add (de_int 1) (de_mod (de_call g.g c__law_cell_at (da_cons (de_var g.g.toGv 0 (fl := .s false)) (da_cons (de_int 11) da_nil))) (de_int 7))) (da_cons (de_add (de_int 1) (de_mod (de_div (de_call g.g c__law_cell_at (da_cons (de_var g.g.toGv 0 (fl := .s false)) (da_cons (de_int 11) da_nil))) (de_int 7)) (de_int 5))) da_nil))))
  (ds_cons (ds_sub (F1 := [.s false, (.dt (.o (.o .s))), .s true, .s true, .o true, .n, .o true, .o true, .o true, .o true, .o true]) (F2 := [.s false, (.dt (.o (.o .s))), .s true, .s true, .o true, .n, .o true, .o true, .o true, .o true, .o true]) (f := (.uq true)) g.g.toGv 9 (dp0 := true) (dp := true) (de_call g.g c__law_less (da_cons (de_tup (da_cons (de_sub (de_int 0) (de_ix g.g.toGv (de_var g.g.toGv 6 (fl := .o true)) (de_int 0))) (da_cons (de_ix g.g.toGv (de_var g.g.toGv 6 (fl := .o true)) (de_int 1)) da_nil))) (da_cons (de_call g.g c__law_low (da_cons (de_ix g.g.toGv (de_var g.g.toGv 10 (fl := .o true)) (de_int 0)) (da_cons (de_ix g.g.toGv (de_var g.g.toGv 10 (fl := .o true)) (de_int 1)) da_nil))) da_nil))) (de_neg (de_int 1)))
  (ds_one (ds_ret (de_view (F := [.s false, (.dt (.o (.o .s))), .s true, .s true, .o true, .n, .o true, .o true, .o true, .o true, .o true]) (F' := [.s false, .s false, .s true, .s true, .o true, .n, .o true, .o true, .o true, .o true, .o true]) (F1 := [.s false, .s false, .s true, .s true, .o true, .n, .o true, .o true, .o true, .o true, .o true]) (de_cmp (opr_eqG g.g.toGv) ops_eq (de_ix g.g.toGv (de_call g.g c__law_asked (da_cons (de_var g.g.toGv 1 (fl := .s false)) (da_cons (de_var g.g.toGv 8 (fl := .o true)) (da_cons (de_var g.g.toGv 9 (fl := .o true)) da_nil)))) (de_int 0)) (de_str "endless"))))))))))))))
end Lk54
namespace Pi
open PySem PySem.Spec PyProof.Rows L2
section
variable {en : En} {a b ev : EvE} {ea er : En → Rs (List D)} {t u : En → Rs Bool} {s s' : EvS} {i j : Nat} {d : D}
@[simp] theorem runF_ap (m : Nat) (st : EvS) (ds : List D) : runF m st ds = endR (st (ds.map some ++ List.replicate m none)) := rfl
@[simp] theorem endR_nx (e : En) : endR (.ok (.nx e)) = .ok .non := rfl
@[simp] theorem endR_rt (d : D) : endR (.ok (.rt d)) = .ok d := rfl
@[simp] theorem endR_er (e : Er) : endR (.error e) = .error e := rfl
@[simp] theorem sNil_ap : sNil en = .ok (.nx en) := rfl
@[simp] theorem sSeq_ap : sSeq s s' en = bnd (s en) fun fl => match fl with
    | .nx en' => s' en'
    | x => .ok x := rfl
@[simp] theorem sRet_ap : sRet ev en = bnd (ev en) fun d => .ok (.rt d) := rfl
@[simp] theorem sRai_ap (e : Nat) : sRai e en = .error (.raise e) := rfl
@[simp] theorem sEx_ap : sEx ev en = bnd (ev en) fun _ => .ok (.nx en) := rfl
@[simp] theorem sAs_ap : sAs i ev en = bnd (ev en) fun d => .ok (.nx (en.set i (some d))) := rfl
@[simp] theorem sPar_ap : sPar i j a b en = bnd (a en) fun x => bnd (b en) fun y => .ok (.nx ((en.set i (some x)).set j (some y))) := rfl
@[simp] theorem sIf_ap : sIf t s s' en = bnd (t en) fun c => if c = true then s en else s' en := by
  unfold sIf
  cases t en with
  | error e => rfl
  | ok c => cases c <;> rfl
@[simp] theorem eVar_0 (d : D) (r : En) : eVar 0 (some d :: r) = .ok d := rfl
@[simp] theorem eVar_s (n : Nat) (o : Option D) (r : En) : eVar (n + 1) (o :: r) = eVar n r := rfl
@[simp] theorem eB2_ap (op : D → D → Option D) : eB2 op a b en = bnd (a en) fun x => bnd (b en) fun y => ofO (op x y) := rfl
@[simp] theorem eU1_ap (op : D → Option D) : eU1 op a en = bnd (a en) fun x => ofO (op x) := rfl
@[simp] theorem tV_ap : tV ev en = bnd (ev en) fun d => ofO (asB d) := rfl
@[simp] theorem asB_bl (b : Bool) : asB (.bl b) = some b := rfl
@[simp] theorem tNt_ap : tNt t en = bnd (t en) fun b => .ok (!b) := rfl
@[simp] theorem tAn_ap : tAn t u en = bnd (t en) fun b => if b = true then u en else .ok false := rfl
@[simp] theorem tO_ap : tO t u en = bnd (t en) fun b => if b = true then .ok true else u en := rfl
@[simp] theorem eAn_ap : eAn a b en = bnd (a en) fun d => bnd (ofO (asB d)) fun c => if c = true then b en else .ok (.bl false) := rfl
@[simp] theorem eOr_ap : eOr a b en = bnd (a en) fun d => bnd (ofO (asB d)) fun c => if c = true then .ok (.bl true) else b en := rfl
@[simp] theorem eNt_ap : eNt a en = bnd (a en) fun d => bnd (ofO (asB d)) fun c => .ok (.bl (!c)) := rfl
@[simp] theorem aNil_ap : aNil en = .ok [] := rfl
@[simp] theorem aCons_ap : aCons a er en = bnd (a en) fun d => bnd (er en) fun ds => .ok (d :: ds) := rfl
@[simp] theorem eTup_ap : eTup ea en = bnd (ea en) fun ds => .ok (.tup ds) := rfl
@[simp] theorem eLst_ap : eLst ea en = bnd (ea en) fun ds => .ok (.lst ds) := rfl
@[simp] theorem eBi_ap (op : List D → Option D) : eBi op ea en = bnd (ea en) fun ds => ofO (op ds) := rfl
@[simp] theorem eCall_ap (fn : List D → Rs D) : eCall fn ea en = bnd (ea en) fn := rfl
@[simp] theorem eCallD_ap (fn : List D → Rs D) (dd : D) : eCallD fn dd ea en = bnd (ea en) fun ds => fn (ds ++ [dd]) := rfl
@[simp] theorem eFl_ap : eFl a en = bnd (a en) fun d => if flat d = true then .ok d else .error .stuck := rfl
@[simp] theorem flat_int (i : Int) : flat (.int i) = true := rfl
@[simp] theorem flat_bl (i : Bool) : flat (.bl i) = true := rfl
@[simp] theorem flat_str (i : Str) : flat (.str i) = true := rfl
@[simp] theorem flat_non : flat .non = true := rfl
@[simp] theorem flat_tup (l : List D) : flat (.tup l) = flat.flatL l := by simp [flat]
@[simp] theorem flatL_nil : flat.flatL [] = true := rfl
@[simp] theorem flatL_cons (d : D) (l : List D) : flat.flatL (d :: l) = (flat d && flat.flatL l) := rfl
@[simp] theorem eIsi_ap (u : Ty) : eIsi u a en = bnd (a en) fun d => bnd (ofO (tyD d)) fun t => .ok (.bl (isiB t u)) := rfl
@[simp] theorem tyD_int (i : Int) : tyD (.int i) = some .int := rfl
@[simp] theorem tyD_bl (i : Bool) : tyD (.bl i) = some .bool := rfl
@[simp] theorem tyD_str (i : Str) : tyD (.str i) = some .str := rfl
@[simp] theorem tyD_non : tyD .non = some .non := rfl
@[simp] theorem tyD_tup (l : List D) : tyD (.tup l) = some .tuple := rfl
@[simp] theorem tyD_lst (l : List D) : tyD (.lst l) = some .list := rfl
@[simp] theorem tyD_scr (l : List Int) : tyD (.scr l) = some .list := rfl
@[simp] theorem sTu_ap (is : List Nat) : sTu is ev en = bnd (ev en) fun d => match d with
  | .tup ds => if ds.length = is.length then .ok (.nx (setAll en is ds)) else .error .stuck
  | _ => .error .stuck := rfl
@[simp] theorem setAll_nil : setAll en [] [] = en := rfl
@[simp] theorem setAll_cons (i : Nat) (is : List Nat) (d : D) (ds : List D) : setAll en (i :: is) (d :: ds) = setAll (en.set i (some d)) is ds := rfl
@[simp] theorem sFor_ap (ev : EvI) (set : En → D → Option En) : sFor ev set s en = bnd (ev en) fun ds => evFor set s ds en := rfl
@[simp] theorem set1_ap (i : Nat) (d : D) : set1 i en d = some (en.set i (some d)) := rfl
@[simp] theorem iRn_ap : iRn ea en = bnd (ea en) fun ds => ofO (oRng ds) := rfl
@[simp] theorem iL_ap : iL ev en = bnd (ev en) fun d => ofO (itemsL d) := rfl
@[simp] theorem iT_ap : iT ev en = bnd (ev en) fun d => ofO (itemsT d) := rfl
@[simp] theorem itemsL_lst (l : List D) : itemsL (.lst l) = some l := rfl
@[simp] theorem itemsL_scr (l : List Int) : itemsL (.scr l) = some (l.map .int) := rfl
@[simp] theorem itemsT_tup (l : List D) : itemsT (.tup l) = some l := rfl
@[simp] theorem sApp_ap : sApp i ev en = bnd (getL i en) fun l => bnd (ev en) fun d => if l.length < sizeLine then .ok (.nx (en.set i (some (.lst (l ++ [d]))))) else .error .stuck := rfl
@[simp] theorem getL_0 (l : List D) (r : En) : getL 0 (some (.lst l) :: r) = .ok l := rfl
@[simp] theorem getL_s (n : Nat) (o : Option D) (r : En) : getL (n + 1) (o :: r) = getL n r := rfl
end
@[simp] theorem oAdd_int (i j : Int) : oAdd (.int i) (.int j) = some (.int (i + j)) := rfl
@[simp] theorem oSub_int (i j : Int) : oSub (.int i) (.int j) = some (.int (i - j)) := rfl
theorem oMul_int {i j : Int} (h : mulOk i j = true) : oMul (.int i) (.int j) = some (.int (i * j)) := by
  show (if mulOk i j = true then some (D.int (i * j)) else none) = _
  rw [if_pos h]
theorem oDiv_int {i j : Int} (h : divOk i j = true) : oDiv (.int i) (.int j) = some (.int (i.fdiv j)) := by
  show (if divOk i j = true then some (i.fdiv j) else none).map D.int = _
  rw [if_pos h] <;> rfl
theorem oMod_int {i j : Int} (h : j ≠ 0) : oMod (.int i) (.int j) = some (.int (i.fmod j)) := by
  show (if j = 0 then none else some (i.fmod j)).map D.int = _
  rw [if_neg h] <;> rfl
@[simp] theorem oCI_int (p : Int → Int → Bool) (i j : Int) : oCI p (.int i) (.int j) = some (.bl (p i j)) := rfl
@[simp] theorem oEq_int (i j : Int) : oEq (.int i) (.int j) = some (.bl (decide (i = j))) := by
  have : PyData.eqv (.int i) (.int j) = decide (i = j) := by simp [PyData.eqv]; by_cases h : i = j <;> simp [h]
  simp [oEq, pl, toP, this]
@[simp] theorem oNe_int (i j : Int) : oNe (.int i) (.int j) = some (.bl (!decide (i = j))) := by
  have : PyData.eqv (.int i) (.int j) = decide (i = j) := by simp [PyData.eqv]; by_cases h : i = j <;> simp [h]
  simp [oNe, pl, toP, this]
@[simp] theorem oLen_scr (l : List Int) : oLen [.scr l] = some (.int l.length) := rfl
@[simp] theorem oLen_lst (l : List D) : oLen [.lst l] = some (.int l.length) := rfl
@[simp] theorem oLen_tup (l : List D) : oLen [.tup l] = some (.int l.length) := rfl
@[simp] theorem oAbs_int (i : Int) : oAbs [.int i] = some (.int (i.natAbs : Int)) := by
  show some (D.int (if i < 0 then -i else i)) = _
  split
  · rw [show -i = (i.natAbs : Int) by omega]
  · rw [show i = (i.natAbs : Int) by omega]; rfl
@[simp] theorem oInt_int (i : Int) : oInt [.int i] = some (.int i) := rfl
@[simp] theorem oInt_bl (b : Bool) : oInt [.bl b] = some (.int (if b then 1 else 0)) := rfl
@[simp] theorem oNeg_int (i : Int) : oNeg (.int i) = some (.int (-i)) := rfl
theorem log2_lt {n m : Nat} (h : n < 2 ^ m) (hm : 0 < m) : n.log2 < m := by
  by_cases hn : n = 0
  · subst hn; simpa using hm
  · exact (Nat.log2_lt hn).mpr h
theorem mulOk_of {i j : Int} {m n : Nat} (hi : i.natAbs < 2 ^ m) (hj : j.natAbs < 2 ^ n) (hm : 0 < m) (hn : 0 < n) (h : m + n < 100000000) : mulOk i j = true := by
  have h1 := log2_lt hi hm
  have h2 := log2_lt hj hn
  unfold mulOk
  simp only [Bool.or_eq_true, decide_eq_true_eq]
  exact .inr (by omega)
theorem mulOk_l {i j : Int} (hi : i.natAbs < 18446744073709551616) : mulOk i j = true := by
  unfold mulOk
  simp [hi]
theorem mulOk_r {i j : Int} (hi : j.natAbs < 18446744073709551616) : mulOk i j = true := by
  unfold mulOk
  simp [hi]
theorem divOk_of {i j : Int} {m : Nat} (h0 : j ≠ 0) (hj : j.natAbs < 2 ^ m) (hm : 0 < m) (h : m ≤ 9000) : divOk i j = true := by
  have h2 := log2_lt hj hm
  unfold divOk
  simp [h0]
  exact .inl (by omega)
@[simp] theorem oIx_20 (a b : D) : oIx (.tup [a, b]) (.int 0) = some a := rfl
@[simp] theorem oIx_21 (a b : D) : oIx (.tup [a, b]) (.int 1) = some b := rfl
theorem atI_nat {α : Type} {l : List α} {n : Nat} (h : n < l.length) : L2.atI l (n : Int) = some l[n] := by
  unfold L2.atI ixN
  rw [if_pos (by omega), if_pos (by omega)]
  simp [h]
theorem oIx_scr {l : List Int} {n : Nat} (h : n < l.length) : oIx (.scr l) (.int n) = some (.int l[n]) := by
  show (L2.atI l (n : Int)).map D.int = _
  rw [atI_nat h] <;> rfl
theorem oIx_lst {l : List D} {n : Nat} (h : n < l.length) : oIx (.lst l) (.int n) = some l[n] := atI_nat h
theorem fmod_lt {a b : Int} (h : b ≠ 0) : (a.fmod b).natAbs < b.natAbs := by
  rcases Int.lt_or_lt_of_ne h with h | h
  · have h0 : (-a).fmod (-b) = -(a.fmod b) := Int.neg_fmod_neg a b
    have h1 := Int.fmod_lt_of_pos (-a) (show 0 < -b by omega)
    have h2 := Int.fmod_nonneg_of_pos (-a) (show 0 < -b by omega)
    omega
  · have h1 := Int.fmod_lt_of_pos a h
    have h2 := Int.fmod_nonneg_of_pos a h
    omega
theorem gcd_fmod (a b : Int) : Int.gcd b (a.fmod b) = Int.gcd a b := by
  have e : a.fmod b = a - b * a.fdiv b := Int.fmod_def a b
  apply Nat.dvd_antisymm
  · refine Int.dvd_gcd ?_ (Int.gcd_dvd_left ..)
    have h1 : (Int.gcd b (a.fmod b) : Int) ∣ b := Int.gcd_dvd_left ..
    have h2 : (Int.gcd b (a.fmod b) : Int) ∣ a.fmod b := Int.gcd_dvd_right ..
    have h3 := Int.dvd_add h2 (Int.dvd_mul_of_dvd_left (c := a.fdiv b) h1)
    have h4 : a.fmod b + b * a.fdiv b = a := by rw [e]; omega
    rw [h4] at h3
    exact h3
  · refine Int.dvd_gcd (Int.gcd_dvd_right ..) ?_
    have h1 : (Int.gcd a b : Int) ∣ b := Int.gcd_dvd_right ..
    have h2 : (Int.gcd a b : Int) ∣ a := Int.gcd_dvd_left ..
    rw [e]
    exact Int.dvd_sub h2 (Int.dvd_mul_of_dvd_left h1)
end Pi
noncomputable section
namespace Co
open PySem PySem.Spec PyProof.Rows L2 Pi
def s_div : EvS := (sSeq (sWh (tV (eB2 oNe (eVar 1) (eC (.int 0))))
    (sSeq (sAs 2 (eB2 oMod (eVar 0) (eVar 1)))
    (sSeq (sAs 0 (eFl (eVar 1)))
    (sAs 1 (eFl (eVar 2))))))
  (sRet (eBi oAbs (aCons (eVar 0) aNil))))
def f_div : List D → Rs D := runF 1 s_div
theorem div_loop : ∀ (n : Nat) (a b : Int) (o : Option D), b.natAbs ≤ n → ∃ (g : Int) (o' : Option D), g.natAbs = Int.gcd a b ∧ sWh (tV (eB2 oNe (eVar 1) (eC (.int 0)))) (sSeq (sAs 2 (eB2 oMod (eVar 0) (eVar 1)))
    (sSeq (sAs 0 (eFl (eVar 1)))
    (sAs 1 (eFl (eVar 2))))) [some (.int a), some (.int b), o] = .ok (.nx [some (.int g), some (.int 0), o'])
  | n, a, b, o, h => by
    rw [sWh_eq]
    by_cases hb : b = 0
    · subst hb
      exact ⟨a, o, by simp, by simp⟩
    · have h1 := fmod_lt (a := a) hb
      cases n with
      | zero => omega
      | succ n =>
        obtain ⟨g, o', e1, e2⟩ := div_loop n b (a.fmod b) (some (.int (a.fmod b))) (by omega)
        rw [gcd_fmod] at e1
        exact ⟨g, o', e1, by simp [hb, oMod_int hb, e2]⟩
theorem div_eq (a b : Int) : f_div [.int a, .int b] = .ok (.int (Int.gcd a b)) := by
  obtain ⟨g, o', e1, e2⟩ := div_loop _ a b none (Nat.le_refl _)
  simp [f_div, s_div, e2, e1]
def s_ratio : EvS := (sSeq (sIf (tV (eB2 oEq (eVar 1) (eC (.int 0))))
    (sRai 0)
    sNil)
  (sSeq (sAs 2 (eCall f_div (aCons (eVar 0) (aCons (eVar 1) aNil))))
  (sSeq (sIf (tV (eB2 oLt (eVar 1) (eC (.int 0))))
    (sAs 2 (eB2 oSub (eC (.int 0)) (eVar 2)))
    sNil)
  (sRet (eTup (aCons (eB2 oDiv (eVar 0) (eVar 2)) (aCons (eB2 oDiv (eVar 1) (eVar 2)) aNil)))))))
def f_ratio : List D → Rs D := runF 1 s_ratio
def prt (t b : Int) : Int := if b < 0 then -(Int.gcd t b : Int) else (Int.gcd t b : Int)
def nu (t b : Int) : Int := t.fdiv (prt t b)
def de (t b : Int) : Int := b.fdiv (prt t b)
def fr (t b : Int) : D := .tup [.int (nu t b), .int (de t b)]
section
variable {t b : Int}
theorem gcd_ne (hb : b ≠ 0) : 0 < Int.gcd t b := Nat.pos_of_ne_zero fun e => hb (Int.eq_zero_of_gcd_eq_zero_right e)
theorem prt_abs : (prt t b).natAbs = Int.gcd t b := by
  unfold prt
  split <;> omega
theorem prt_ne (hb : b ≠ 0) : prt t b ≠ 0 := by
  have h1 := gcd_ne (t := t) hb
  have h2 := prt_abs (t := t) (b := b)
  omega
theorem prt_dvd_t : prt t b ∣ t := Int.natAbs_dvd.mp (by rw [prt_abs]; exact Int.gcd_dvd_left ..)
theorem prt_dvd_b : prt t b ∣ b := Int.natAbs_dvd.mp (by rw [prt_abs]; exact Int.gcd_dvd_right ..)
theorem nu_mul (hb : b ≠ 0) : t = prt t b * nu t b := by
  obtain ⟨p, hp⟩ := prt_dvd_t (t := t) (b := b)
  have : nu t b = p := by
    unfold nu
    conv => lhs; arg 1; rw [hp]
    exact Int.mul_fdiv_cancel_left p (prt_ne hb)
  rw [this]
  exact hp
theorem de_mul (hb : b ≠ 0) : b = prt t b * de t b := by
  obtain ⟨p, hp⟩ := prt_dvd_b (t := t) (b := b)
  have : de t b = p := by
    unfold de
    conv => lhs; arg 1; rw [hp]
    exact Int.mul_fdiv_cancel_left p (prt_ne hb)
  rw [this]
  exact hp
theorem prt_le (hb : b ≠ 0) : (prt t b).natAbs ≤ b.natAbs := by
  rw [prt_abs]
  exact Nat.le_of_dvd (by omega) (Nat.gcd_dvd_right t.natAbs b.natAbs)
theorem de_pos (hb : b ≠ 0) : 0 < de t b := by
  have h1 := de_mul (t := t) hb
  have h0 := gcd_ne (t := t) hb
  have h2 : 0 < prt t b * b := by
    unfold prt
    split
    · rename_i h
      exact Int.mul_pos_of_neg_of_neg (by omega) h
    · exact Int.mul_pos (by omega) (by omega)
  have h3 : 0 < prt t b * prt t b := by
    rcases Int.lt_or_lt_of_ne (prt_ne (t := t) hb) with z | z
    · exact Int.mul_pos_of_neg_of_neg z z
    · exact Int.mul_pos z z
  have h4 : prt t b * b = de t b * (prt t b * prt t b) := by
    conv => lhs; arg 2; rw [h1]
    rw [← Int.mul_assoc, Int.mul_comm]
  rw [h4] at h2
  exact Int.pos_of_mul_pos_left h2 h3
theorem cop (hb : b ≠ 0) : Int.gcd (nu t b) (de t b) = 1 := by
  have h2 : Int.gcd (prt t b * nu t b) (prt t b * de t b) = (prt t b).natAbs * Int.gcd (nu t b) (de t b) := Int.gcd_mul_left ..
  rw [← nu_mul hb, ← de_mul hb, prt_abs] at h2
  exact (Nat.eq_of_mul_eq_mul_left (gcd_ne (t := t) hb) (by omega)).symm
theorem across (hb : b ≠ 0) : nu t b * b = t * de t b := by
  have h1 := nu_mul (t := t) hb
  have h2 := de_mul (t := t) hb
  generalize prt t b = c at h1 h2
  generalize nu t b = p at h1 h2
  generalize de t b = q at h1 h2
  rw [h1, h2, Int.mul_comm c p, Int.mul_assoc]
theorem nu_le (hb : b ≠ 0) : (nu t b).natAbs ≤ t.natAbs := by
  have h1 := nu_mul (t := t) hb
  have h2 := prt_ne (t := t) hb
  have h3 : t.natAbs = (prt t b).natAbs * (nu t b).natAbs := by rw [← Int.natAbs_mul, ← h1]
  rw [h3]
  exact Nat.le_mul_of_pos_left _ (by omega)
theorem de_le (hb : b ≠ 0) : (de t b).natAbs ≤ b.natAbs := by
  have h1 := de_mul (t := t) hb
  have h2 := prt_ne (t := t) hb
  have h3 : b.natAbs = (prt t b).natAbs * (de t b).natAbs := by rw [← Int.natAbs_mul, ← h1]
  rw [h3]
  exact Nat.le_mul_of_pos_left _ (by omega)
end
def B (n : Nat) (i : Int) : Prop := i.natAbs < 2 ^ n
theorem B.mul {m n : Nat} {i j : Int} (h : B m i) (k : B n j) : B (m + n) (i * j) := by
  unfold B at *
  rw [Int.natAbs_mul, Nat.pow_add]
  exact Nat.mul_lt_mul'' h k
theorem B.mono {m n : Nat} {i : Int} (h : B m i) (k : m ≤ n) : B n i := Nat.lt_of_lt_of_le h (Nat.pow_le_pow_right (by decide) k)
theorem B.add {n : Nat} {i j : Int} (h : B n i) (k : B n j) : B (n + 1) (i + j) := by
  unfold B at *
  rw [Nat.pow_succ]
  have := Int.natAbs_add_le i j
  omega
theorem B.sub {n : Nat} {i j : Int} (h : B n i) (k : B n j) : B (n + 1) (i - j) := by
  unfold B at *
  rw [Nat.pow_succ]
  have := Int.natAbs_sub_le i j
  omega
theorem B.le {n : Nat} {i j : Int} (h : B n i) (k : j.natAbs ≤ i.natAbs) : B n j := Nat.lt_of_le_of_lt k h
theorem B.ok {m n : Nat} {i j : Int} (h : B m i) (k : B n j) (hm : m < 40000000 := by decide) (hn : n < 40000000 := by decide) : mulOk i j = true :=
  mulOk_of (m := m + 1) (n := n + 1) (h.mono (by omega)) (k.mono (by omega)) (by omega) (by omega) (by omega)
end Co
end
noncomputable section
namespace Co
open PySem PySem.Spec PyProof.Rows L2 Pi
theorem irng_nat (n : Nat) : irng 0 n = (List.range n).map fun k : Nat => D.int k := by
  unfold irng
  simp
theorem bd62_nat {m : Nat} (h : m < 1000000) : bd62 (m : Int) = true := by
  unfold bd62
  rw [Bool.and_eq_true, decide_eq_true_eq, decide_eq_true_eq]
  have e : (2 : Int) ^ 62 = 4611686018427387904 := by decide
  rw [e]
  omega
theorem oRng_nat {m : Nat} (h : m < 1000000) : oRng [.int (m : Int)] = some ((List.range m).map fun k : Nat => D.int k) := by
  rw [← irng_nat m]
  show (if bd62 (m : Int) = true then some (irng 0 (m : Int).toNat) else none) = _
  rw [if_pos (bd62_nat h), Int.toNat_natCast]
theorem tlow_loop (t b : D) : ∀ (n : Nat) (x y : Int), y.natAbs ≤ n → 0 ≤ x → 0 ≤ y → sWh (tV (eB2 oGt (eVar 3) (eC (.int 0))))
    (sPar 2 3 (eFl (eVar 3)) (eB2 oMod (eVar 2) (eVar 3))) [some t, some b, some (.int x), some (.int y)] = .ok (.nx [some t, some b, some (.int (Int.gcd x y)), some (.int 0)])
  | n, x, y, h, hx, hy => by
    rw [sWh_eq]
    by_cases hb : y = 0
    · subst hb
      have : (x.natAbs : Int) = x := by omega
      simp [this]
    · have h1 := fmod_lt (a := x) hb
      have h2 := Int.fmod_nonneg_of_pos x (b := y) (by omega)
      have hp : 0 < y := by omega
      cases n with
      | zero => omega
      | succ n =>
        have ih := tlow_loop t b n y (x.fmod y) (by omega) hy h2
        rw [gcd_fmod] at ih
        simp [hp, oMod_int hb, ih]
end Co
end
noncomputable section
namespace Co
open PySem PySem.Spec PyProof.Rows L2 Pi
def tn (T : List Nat) : List D := T.map fun k : Nat => D.int k
theorem ixN_nat {n k : Nat} (h : k < n) : ixN n (k : Int) = some k := by
  unfold ixN
  rw [if_pos (by omega), if_pos (by omega)]
  simp
abbrev Rd3 := Nat × Int × Int
def rd (r : Rd3) : D := .tup [.int (r.1 : Nat), .tup [.int r.2.1, .int r.2.2]]
end Co
end
noncomputable section
namespace Co
open PySem PySem.Spec PyProof.Rows L2 Pi
theorem seq_nx {s t : EvS} {en en' : En} (h : s en = .ok (.nx en')) : sSeq s t en = t en' := by
  rw [sSeq_ap, h, bnd_ok]
theorem step_nx {s t : EvS} {en en' : En} {r : Rs D} (h : s en = .ok (.nx en')) (q : endR (t en') = r) : endR (sSeq s t en) = r := by
  rw [seq_nx h]
  exact q
end Co
end
noncomputable section
namespace Co
open PySem PySem.Spec PyProof.Rows L2 Pi
def wyF (Rs : List Rd3) : Nat → Nat → List Nat
  | 0, _ => []
  | f + 1, k => if k = 0 then [] else match Rs[k - 1]? with
    | some r => k :: wyF Rs f r.1
    | none => []
def wy (Rs : List Rd3) (k : Nat) : List Nat := wyF Rs Rs.length k
def tree (c : Nat) (Rs : List Rd3) : D := .obj c [.lst (Rs.map rd)]
@[simp] theorem eFld_ap (c j : Nat) (a : EvE) (en : En) : eFld c j a en = bnd (a en) fun d => match d with
  | .obj c' l => if c' = c then ofO l[j]? else .error .stuck
  | _ => .error .stuck := rfl
mutual
theorem eqv_self : ∀ d : D, PyData.eqv (toP d) (toP d) = true
  | .non => by simp [toP, PyData.eqv]
  | .bl b => by simp [toP, PyData.eqv]
  | .int i => by simp [toP, PyData.eqv]
  | .str x => by simp [toP, PyData.eqv]
  | .tup l => by rw [toP, PyData.eqv]; exact eqvAll_self l
  | .lst l => by rw [toP, PyData.eqv]; exact eqvAll_self l
  | .dct _ _ => by simp [toP, PyData.eqv]
  | .obj _ _ => by simp [toP, PyData.eqv]
  | .exc _ => by simp [toP, PyData.eqv]
  | .scr _ => by simp [toP, PyData.eqv]
theorem eqvAll_self : ∀ l : List D, PyData.eqvAll (toPL l) (toPL l) = true
  | [] => by simp [toPL, PyData.eqvAll]
  | d :: l => by rw [toPL, PyData.eqvAll, eqv_self d, eqvAll_self l]; rfl
end
@[simp] theorem eMeth_ap (c : Nat) (fn : List D → Rs D) (o : EvE) (a : En → Rs (List D)) (en : En) : eMeth c fn o a en = bnd (o en) fun d => match d with
  | .obj c' l => if c' = c then bnd (a en) fun ds => fn (.obj c' l :: ds) else .error .stuck
  | _ => .error .stuck := rfl
end Co
end
noncomputable section
namespace Co
open PySem PySem.Spec PyProof.Rows L2 Pi
theorem eLc_ap {vs : List Nat} {evI : EvI} {set : En → D → Option En} {t : En → Rs Bool} {e : EvE} {en : En} {ds l : List D} (h1 : evI en = .ok ds) (h2 : evLc set t e (wipE vs en) ds = .ok l) (h3 : l.length < 1000000) : eLc vs evI set t e en = .ok (.lst l) := by
  have h4 : l.length ≤ sizeLine := by rw [sizeLine_eq]; omega
  show bnd (evI en) _ = _
  rw [h1, bnd_ok, h2]
  show bnd (noR (.ok l)) _ = _
  show (if l.length ≤ sizeLine then _ else _) = _
  rw [if_pos h4]
def crs (n : Nat) : List Nat := (List.range n).map (· + 1)
theorem iRn1_of {a : EvE} {en : En} {i : D} {ds : List D} (h : a en = .ok i) (rg : oRng [i] = some ds) : iRn (aCons a aNil) en = .ok ds := by
  rw [iRn_ap, aCons_ap, h, bnd_ok, aNil_ap, bnd_ok, bnd_ok, rg]
  rfl
theorem sFor_of {ev : EvI} {set : En → D → Option En} {body : EvS} {en : En} {ds : List D} {r : Rs Fl} (h : ev en = .ok ds) (q : evFor set body ds en = r) : sFor ev set body en = r := by
  rw [sFor_ap, h, bnd_ok, q]
end Co
end
noncomputable section
namespace Co
open PySem PySem.Spec PyProof.Rows L2 Pi
theorem evFor_ix {set : En → D → Option En} {body : EvS} {P : Nat → En → Prop} : ∀ (l : List D) (i : Nat) (en : En), P i en → (∀ j d en, l[j]? = some d → P (i + j) en → ∃ en1 en2, set en d = some en1 ∧ body en1 = .ok (.nx en2) ∧ P (i + j + 1) en2) →
    ∃ en', evFor set body l en = .ok (.nx en') ∧ P (i + l.length) en'
  | [], i, en, h, _ => ⟨en, rfl, h⟩
  | d :: l, i, en, h, hb => by
    obtain ⟨en1, en2, h1, h2, h3⟩ := hb 0 d en rfl h
    obtain ⟨en', q1, q2⟩ := evFor_ix l (i + 1) en2 h3 fun j x e hx hp => by
      have := hb (j + 1) x e (by simpa using hx) (by rw [show i + (j + 1) = i + 1 + j by omega]; exact hp)
      rw [show i + (j + 1) + 1 = i + 1 + j + 1 by omega] at this
      exact this
    refine ⟨en', ?_, by rw [List.length_cons, show i + (l.length + 1) = i + 1 + l.length by omega]; exact q2⟩
    show bnd (ofO (set en d)) _ = _
    rw [h1, ofO_some, bnd_ok, h2, bnd_ok]
    exact q1
theorem eCall1_of {fn : List D → Rs D} {a : EvE} {en : En} {x : D} {r : Rs D} (h : a en = .ok x) (q : fn [x] = r) : eCall fn (aCons a aNil) en = r := by
  rw [eCall_ap, aCons_ap, h, bnd_ok, aNil_ap, bnd_ok, bnd_ok, q]
theorem eCall2_of {fn : List D → Rs D} {a b : EvE} {en : En} {x y : D} {r : Rs D} (h : a en = .ok x) (h2 : b en = .ok y) (q : fn [x, y] = r) : eCall fn (aCons a (aCons b aNil)) en = r := by
  rw [eCall_ap, aCons_ap, h, bnd_ok, aCons_ap, h2, bnd_ok, aNil_ap, bnd_ok, bnd_ok, bnd_ok, q]
theorem eCall3_of {fn : List D → Rs D} {a b c : EvE} {en : En} {x y z : D} {r : Rs D} (h : a en = .ok x) (h2 : b en = .ok y) (h3 : c en = .ok z) (q : fn [x, y, z] = r) : eCall fn (aCons a (aCons b (aCons c aNil))) en = r := by
  rw [eCall_ap, aCons_ap, h, bnd_ok, aCons_ap, h2, bnd_ok, aCons_ap, h3, bnd_ok, aNil_ap, bnd_ok, bnd_ok, bnd_ok, bnd_ok, q]
theorem eB2_of {op : D → D → Option D} {a b : EvE} {en : En} {x y z : D} (h : a en = .ok x) (h2 : b en = .ok y) (q : op x y = some z) : eB2 op a b en = .ok z := by
  rw [eB2_ap, h, bnd_ok, h2, bnd_ok, q]
  rfl
theorem eBi1_of {op : List D → Option D} {a : EvE} {en : En} {x z : D} (h : a en = .ok x) (q : op [x] = some z) : eBi op (aCons a aNil) en = .ok z := by
  rw [eBi_ap, aCons_ap, h, bnd_ok, aNil_ap, bnd_ok, bnd_ok, q]
  rfl
theorem sAs_of {i : Nat} {ev : EvE} {en : En} {d : D} (h : ev en = .ok d) : sAs i ev en = .ok (.nx (en.set i (some d))) := by
  rw [sAs_ap, h, bnd_ok]
theorem tV_of {ev : EvE} {en : En} {b : Bool} (h : ev en = .ok (.bl b)) : tV ev en = .ok b := by
  rw [tV_ap, h, bnd_ok]
  rfl
abbrev abc : Str := Str.ofString "abcdefghijklmnopqrstuvwxyz"
def ts (xs : List Str) : List D := xs.map .str
@[simp] theorem eM1_ap (op : D → D → Option D) (a b : EvE) (en : En) : eM1 op a b en = bnd (a en) fun x => if isSt x = true then bnd (b en) fun y => ofO (op x y) else .error .stuck := rfl
@[simp] theorem eM0_ap (op : D → Option D) (a : EvE) (en : En) : eM0 op a en = bnd (a en) fun x => if isSt x = true then ofO (op x) else .error .stuck := rfl
@[simp] theorem eSl_ap (a : EvE) (lo hi : En → Rs (Option Int)) (en : En) : eSl a lo hi en = bnd (a en) fun x => bnd (lo en) fun l => bnd (hi en) fun h => ofO (oSl x l h) := rfl
@[simp] theorem oNo_ap (en : En) : oNo en = .ok none := rfl
@[simp] theorem oYes_ap (a : EvE) (en : En) : oYes a en = bnd (a en) fun d => match d with
  | .int i => .ok (some i)
  | _ => .error .stuck := rfl
@[simp] theorem isSt_str (x : Str) : isSt (.str x) = true := rfl
abbrev Hms := List (Str × Nat)
def hmK (h : Hms) : List Key := h.map fun p => Sum.inr p.1
def hmV (h : Hms) : List D := h.map fun p => .int p.2
def homesD (h : Hms) : D := .dct (hmK h) (hmV h)
def home (h : Hms) (x : Str) : Nat := ((h.find? fun p => decide (p.1 = x)).map (·.2)).getD 0
@[simp] theorem getD_0 (ks : List Key) (l : List D) (r : En) : Pi.getD 0 (some (.dct ks l) :: r) = .ok (ks, l) := rfl
@[simp] theorem getD_s (n : Nat) (o : Option D) (r : En) : Pi.getD (n + 1) (o :: r) = Pi.getD n r := rfl
@[simp] theorem dK_str (x : Str) : dK (.str x) = some (.inr x) := rfl
@[simp] theorem dK_int (x : Int) : dK (.int x) = some (.inl x) := rfl
@[simp] theorem sDSub_ap (i : Nat) (ek ev : EvE) (en : En) : sDSub i ek ev en = bnd (Pi.getD i en) fun p => bnd (ev en) fun d => bnd (ek en) fun kd => bnd (ofO (dK kd)) fun k =>
  if p.1.length < sizeLine then .ok (.nx (en.set i (some (.dct (dPut p.1 p.2 k d).1 (dPut p.1 p.2 k d).2)))) else .error .stuck := rfl
theorem oZip_lst (a b : List D) : oZip [.lst a, .lst b] = some (zipD a b) := rfl
theorem iZp_of {a b : EvE} {en : En} {x y : List D} (h : a en = .ok (.lst x)) (h' : b en = .ok (.lst y)) : iZp (aCons a (aCons b aNil)) en = .ok (zipD x y) := by
  unfold iZp
  rw [aCons_ap, h, bnd_ok, aCons_ap, h', bnd_ok, aNil_ap, bnd_ok, bnd_ok, bnd_ok, oZip_lst]
  rfl
@[simp] theorem sRev_ap (i : Nat) (en : En) : sRev i en = bnd (getL i en) fun l => .ok (.nx (en.set i (some (.lst l.reverse)))) := rfl
end Co
end
noncomputable section
namespace Co
open PySem PySem.Spec PyProof.Rows L2 Pi
def addN (K : List Nat) (k : Nat) : List Nat := if k ∈ K then K else K ++ [k]
def need (Rs : List Rd3) (h : Hms) (g : List Str) : List Nat := (crs Rs.length).filter fun k => g.any fun x => decide (k ∈ wy Rs (home h x))
def grow (Rs : List Rd3) (h : Hms) (K : List Nat) (x : Str) : List Nat := (wy Rs (home h x)).foldl addN K
theorem iL_of {ev : EvE} {en : En} {l : List D} (h : ev en = .ok (.lst l)) : iL ev en = .ok l := by
  rw [iL_ap, h, bnd_ok]
  rfl
end Co
end
noncomputable section
namespace Co
open PySem PySem.Spec PyProof.Rows L2 Pi
theorem oNe_self {d : D} (h : pl d 60 = true) : oNe d d = some (.bl false) := by
  unfold oNe
  rw [if_pos ⟨h, h⟩, eqv_self]
  rfl
theorem evLc_map {α : Type} {set : En → D → Option En} {e : EvE} {enb : En} {q r : α → D} : ∀ l : List α, (∀ a, a ∈ l → ∃ en1, set enb (q a) = some en1 ∧ e en1 = .ok (r a)) → evLc set (fun _ => .ok true) e enb (l.map q) = .ok (l.map r)
  | [], _ => rfl
  | a :: l, h => by
    obtain ⟨en1, h1, h2⟩ := h a List.mem_cons_self
    have ih := evLc_map l fun x hx => h x (List.mem_cons_of_mem _ hx)
    show bnd (ofO (set enb (q a))) _ = _
    rw [h1, ofO_some, bnd_ok, bnd_ok, if_pos rfl, h2, bnd_ok]
    show bnd (evLc set (fun _ => .ok true) e enb (l.map q)) _ = _
    rw [ih]
    rfl
end Co
end
noncomputable section
namespace Co
open PySem PySem.Spec PyProof.Rows L2 Pi
def rD (r : Rat) : D := .tup [.int r.num, .int (r.den : Nat)]
theorem fr_rD {t b : Int} (hb : b ≠ 0) : fr t b = rD (Rat.divInt t b) := by
  have h1 := across (t := t) hb
  have h2 := de_pos (t := t) hb
  have h3 := cop (t := t) hb
  unfold fr rD
  generalize nu t b = p at *
  obtain ⟨d, hd⟩ : ∃ d : Nat, de t b = d := ⟨(de t b).toNat, by omega⟩
  rw [hd] at h1 h2 h3 ⊢
  have nz : d ≠ 0 := by omega
  have red : p.natAbs.Coprime d := h3
  have e1 : (⟨p, d, nz, red⟩ : Rat) = Rat.divInt p d := Rat.mk_eq_divInt
  have e2 : Rat.divInt p d = Rat.divInt t b := (Rat.divInt_eq_divInt_iff (by omega) hb).mpr h1
  rw [← e2, ← e1]
theorem add_div (a b : Rat) : a + b = Rat.divInt (a.num * (b.den : Int) + b.num * (a.den : Int)) ((a.den : Int) * (b.den : Int)) := by
  rw [Rat.add_def', ← Rat.divInt_ofNat]
  rfl
theorem den_pos (a : Rat) : 0 < (a.den : Int) := by have := a.den_pos; omega
theorem den_mul_pos (a b : Rat) : 0 < (a.den : Int) * (b.den : Int) := Int.mul_pos (den_pos a) (den_pos b)
structure Rb (m n : Nat) (r : Rat) : Prop where
  num : B m r.num
  den : B n (r.den : Int)
theorem num_of {t b : Int} (hb : b ≠ 0) : (Rat.divInt t b).num = nu t b ∧ ((Rat.divInt t b).den : Int) = de t b := by
  have := fr_rD (t := t) hb
  unfold fr rD at this
  injection this with this
  injection this with h1 h2
  injection h2 with h2 _
  injection h1 with h1
  injection h2 with h2
  exact ⟨h1.symm, h2.symm⟩
theorem Rb.add {m n m' n' k : Nat} {a b : Rat} (ha : Rb m n a) (hb : Rb m' n' b) (h1 : m + n' ≤ k) (h2 : m' + n ≤ k) : Rb (k + 1) (n + n') (a + b) := by
  have nz : (a.den : Int) * (b.den : Int) ≠ 0 := by have := den_mul_pos a b; omega
  obtain ⟨e1, e2⟩ := num_of (t := a.num * (b.den : Int) + b.num * (a.den : Int)) nz
  rw [add_div]
  refine ⟨?_, ?_⟩
  · rw [e1]
    exact (((ha.num.mul hb.den).mono h1).add ((hb.num.mul ha.den).mono h2)).le (nu_le nz)
  · rw [e2]
    exact (ha.den.mul hb.den).le (de_le nz)
theorem Rb.mono {m n m' n' : Nat} {a : Rat} (h : Rb m n a) (h1 : m ≤ m') (h2 : n ≤ n') : Rb m' n' a := ⟨h.num.mono h1, h.den.mono h2⟩
theorem Rb_0 : Rb 0 1 0 := ⟨by unfold B; decide, by unfold B; decide⟩
theorem prt_ok8 {t b : Int} (hb : b ≠ 0) (h : B 8900 b) (i : Int) : divOk i (prt t b) = true := divOk_of (m := 8900) (prt_ne hb) (Nat.lt_of_le_of_lt (prt_le hb) h) (by decide) (by decide)
def s_ratioE (e : Nat) : EvS := (sSeq (sIf (tV (eB2 oEq (eVar 1) (eC (.int 0))))
    (sRai e)
    sNil)
  (sSeq (sAs 2 (eCall f_div (aCons (eVar 0) (aCons (eVar 1) aNil))))
  (sSeq (sIf (tV (eB2 oLt (eVar 1) (eC (.int 0))))
    (sAs 2 (eB2 oSub (eC (.int 0)) (eVar 2)))
    sNil)
  (sRet (eTup (aCons (eB2 oDiv (eVar 0) (eVar 2)) (aCons (eB2 oDiv (eVar 1) (eVar 2)) aNil)))))))
def f_ratioE (e : Nat) : List D → Rs D := runF 1 (s_ratioE e)
theorem ratio8 {e : Nat} {t b : Int} (hb : b ≠ 0) (h : B 8900 b) : f_ratioE e [.int t, .int b] = .ok (fr t b) := by
  have h1 := prt_ok8 (t := t) hb h t
  have h2 := prt_ok8 (t := t) hb h b
  unfold fr nu de
  unfold prt at h1 h2 ⊢
  by_cases hn : b < 0
  · rw [if_pos hn] at h1 h2 ⊢
    simp [f_ratioE, s_ratioE, hb, hn, div_eq, oDiv_int h1, oDiv_int h2]
  · rw [if_neg hn] at h1 h2 ⊢
    simp [f_ratioE, s_ratioE, hb, hn, div_eq, oDiv_int h1, oDiv_int h2]
def rsum (l : List Rat) : Rat := l.foldl (· + ·) 0
end Co
end
noncomputable section
namespace Co
open PySem PySem.Spec PyProof.Rows L2 Pi
def rat (r : Rd3) : Rat := Rat.divInt r.2.1 r.2.2
def pr (Rs : List Rd3) (k : Nat) : Rat := ((Rs[k - 1]?).map rat).getD 0
theorem flat_rD (r : Rat) : flat (rD r) = true := by simp [rD]
theorem eFl_of {ev : EvE} {en : En} {d : D} (h : ev en = .ok d) (hf : flat d = true) : eFl ev en = .ok d := by
  rw [eFl_ap, h, bnd_ok, if_pos hf]
def cst (Rs : List Rd3) (h : Hms) (g : List Str) : Rat := rsum ((need Rs h g).map (pr Rs))
end Co
end
noncomputable section
namespace Co
open PySem PySem.Spec PyProof.Rows L2 Pi
theorem oAdd_lst {a b : List D} (h : a.length + b.length < 1000000) : oAdd (.lst a) (.lst b) = some (.lst (a ++ b)) := by
  have e : a.length + b.length ≤ sizeLine := by rw [sizeLine_eq]; omega
  simp [oAdd, e]
end Co
end
noncomputable section
namespace Co
open PySem PySem.Spec PyProof.Rows L2 Pi
end Co
end
noncomputable section
namespace Co
open PySem PySem.Spec PyProof.Rows L2 Pi
def tm (n t a : Nat) : Nat := if a + t < n then a + t else a + t - n
def sm (r : Rd3) : Prop := r.2.1.natAbs < 100000000000000000000000000000 ∧ r.2.2.natAbs < 100000000000000000000000000000
end Co
end
noncomputable section
namespace Co
open PySem PySem.Spec PyProof.Rows L2 Pi
def tx (w : List Nat) : Str := ⟨w.toArray⟩
def ltr (c : Nat) : Prop := c ∈ abc.cps.toList
def nm (x : Str) : Prop := ∃ w : List Nat, x = tx w ∧ 1 ≤ w.length ∧ w.length ≤ 8 ∧ ∀ c, c ∈ w → ltr c
end Co
end
noncomputable section
namespace Co
open PySem PySem.Spec PyProof.Rows L2 Pi
end Co
end
noncomputable section
namespace Co
open PySem PySem.Spec PyProof.Rows L2 Pi
def Dv (M : Int) (r : Rat) : Prop := ∃ z : Int, r = Rat.divInt z M
theorem Dv.add {M : Int} {a b : Rat} (hM : M ≠ 0) (ha : Dv M a) (hb : Dv M b) : Dv M (a + b) := by
  obtain ⟨x, rfl⟩ := ha
  obtain ⟨y, rfl⟩ := hb
  refine ⟨x + y, ?_⟩
  rw [Rat.divInt_add_divInt _ _ hM hM, ← Int.add_mul, Rat.divInt_mul_right hM]
theorem Dv.zero {M : Int} : Dv M 0 := ⟨0, by rw [Rat.zero_divInt]⟩
theorem Dv.den {M : Int} {n : Nat} {r : Rat} (h : Dv M r) (hM : M ≠ 0) (bM : B n M) : B n (r.den : Int) := by
  obtain ⟨z, rfl⟩ := h
  rw [(num_of hM).2]
  exact bM.le (de_le hM)
theorem Dv.of {d e z : Int} (hd : e ≠ 0) : Dv (d * e) (Rat.divInt z d) := ⟨z * e, by rw [Rat.divInt_mul_right hd]⟩
end Co
end
noncomputable section
namespace Co
open PySem PySem.Spec PyProof.Rows L2 Pi
def rep (n : Nat) (x : Rat) : Rat := rsum (List.replicate n x)
end Co
end
noncomputable section
namespace Co
open PySem PySem.Spec PyProof.Rows L2 Pi
end Co
end
noncomputable section
namespace Co
open PySem PySem.Spec PyProof.Rows L2 Pi
def Qn (M : Int) (c : Nat) (r : Rat) : Prop := ∃ z : Int, r = Rat.divInt z M ∧ B c z
section
variable {M : Int} {c c' : Nat} {a b : Rat}
theorem Qn.dv (h : Qn M c a) : Dv M a := by obtain ⟨z, e, _⟩ := h; exact ⟨z, e⟩
theorem Qn.num (h : Qn M c a) (hM : M ≠ 0) : B c a.num := by
  obtain ⟨z, rfl, h⟩ := h
  rw [(num_of hM).1]
  exact h.le (nu_le hM)
theorem Qn.mono (h : Qn M c a) (k : c ≤ c') : Qn M c' a := by obtain ⟨z, e, h⟩ := h; exact ⟨z, e, h.mono k⟩
theorem Qn.zero : Qn M 0 0 := ⟨0, by rw [Rat.zero_divInt], by unfold B; decide⟩
theorem Qn.add (hM : M ≠ 0) (ha : Qn M c a) (hb : Qn M c' b) (k : c' ≤ c) : Qn M (c + 1) (a + b) := by
  obtain ⟨x, rfl, h1⟩ := ha
  obtain ⟨y, rfl, h2⟩ := hb
  refine ⟨x + y, ?_, h1.add (h2.mono k)⟩
  rw [Rat.divInt_add_divInt _ _ hM hM, ← Int.add_mul, Rat.divInt_mul_right hM]
theorem Qn.neg (ha : Qn M c a) : Qn M c (-a) := by
  obtain ⟨x, rfl, h1⟩ := ha
  exact ⟨-x, by rw [Rat.neg_divInt], by unfold B at *; rw [Int.natAbs_neg]; exact h1⟩
theorem Qn.sub (hM : M ≠ 0) (ha : Qn M c a) (hb : Qn M c' b) (k : c' ≤ c) : Qn M (c + 1) (a - b) := by
  rw [Rat.sub_eq_add_neg]
  exact ha.add hM hb.neg k
end
theorem sub_div (a b : Rat) : a - b = Rat.divInt (a.num * (b.den : Int) - b.num * (a.den : Int)) ((a.den : Int) * (b.den : Int)) := by
  rw [Rat.sub_eq_add_neg, add_div, Rat.neg_num, Rat.neg_den, Int.neg_mul]
  rfl
def s_restE (e : Nat) : EvS := (sRet (eCall (f_ratioE e) (aCons (eB2 oSub (eFl (eB2 oMul (eB2 oIx (eVar 0) (eC (.int 0))) (eB2 oIx (eVar 1) (eC (.int 1))))) (eFl (eB2 oMul (eB2 oIx (eVar 1) (eC (.int 0))) (eB2 oIx (eVar 0) (eC (.int 1)))))) (aCons (eFl (eB2 oMul (eB2 oIx (eVar 0) (eC (.int 1))) (eB2 oIx (eVar 1) (eC (.int 1))))) aNil))))
def f_restE (e : Nat) : List D → Rs D := runF 0 (s_restE e)
def s_less : EvS := (sRet (eB2 oLt (eFl (eB2 oMul (eB2 oIx (eVar 0) (eC (.int 0))) (eB2 oIx (eVar 1) (eC (.int 1))))) (eFl (eB2 oMul (eB2 oIx (eVar 1) (eC (.int 0))) (eB2 oIx (eVar 0) (eC (.int 1)))))))
def f_less : List D → Rs D := runF 0 s_less
theorem lt_num (a b : Rat) : a.num * (b.den : Int) < b.num * (a.den : Int) ↔ a < b := (Rat.lt_iff a b).symm
theorem less_eq {a b : Rat} (k1 : mulOk a.num (b.den : Int) = true) (k2 : mulOk b.num (a.den : Int) = true) : f_less [rD a, rD b] = .ok (.bl (decide (a < b))) := by
  have e : (decide (a < b)) = decide (a.num * (b.den : Int) < b.num * (a.den : Int)) := by simp only [lt_num]
  rw [e]
  unfold rD
  simp [f_less, s_less, oMul_int k1, oMul_int k2]
theorem Qn.div {M L : Int} {c d n : Nat} {r : Rat} (h : Qn M c r) (hM : M ≠ 0) (hL : L ≠ 0) (hn : 0 < n) (hd : (n : Int) ∣ L) (bL : B d L) : Qn (M * L) (c + d) (r / ((n : Nat) : Rat)) := by
  obtain ⟨z, rfl, hz⟩ := h
  obtain ⟨q, hq⟩ := hd
  have n0 : ((n : Nat) : Int) ≠ 0 := by omega
  have q0 : q ≠ 0 := fun e => hL (by rw [hq, e, Int.mul_zero])
  refine ⟨z * q, ?_, ?_⟩
  · have e1 : ((n : Nat) : Rat) = Rat.divInt (n : Int) 1 := (Rat.num_divInt_den ((n : Nat) : Rat)).symm
    rw [e1, Rat.div_def, Rat.inv_divInt, Rat.divInt_mul_divInt, hq, ← Int.mul_assoc, Rat.divInt_mul_right q0, Int.mul_one]
  · refine hz.mul (bL.le ?_)
    rw [hq, Int.natAbs_mul]
    exact Nat.le_mul_of_pos_left _ (by omega)
theorem Qn.up {M L : Int} {c d : Nat} {r : Rat} (h : Qn M c r) (hL : L ≠ 0) (bL : B d L) : Qn (M * L) (c + d) r := by
  obtain ⟨z, rfl, hz⟩ := h
  exact ⟨z * L, by rw [Rat.divInt_mul_right hL], hz.mul bL⟩
end Co
end
namespace Sg
def sm {α : Type} (f : α → Rat) : List α → Rat
  | [] => 0
  | x :: l => f x + sm f l
section
variable {α : Type} {f g : α → Rat} {l l' : List α}
end
def updw (w : Nat → Rat) (i : Nat) (x : Rat) : Nat → Rat := fun j => if j = i then w j + x else w j
def run (p : Nat → Rat) (par : Nat → Nat) : (Nat → Rat) → List Nat → (Nat → Rat) × List Nat
  | w, [] => (w, [])
  | w, k :: r => if 0 ≤ w k - p k then ((run p par (updw w (par k) (w k - p k)) r).1, k :: (run p par (updw w (par k) (w k - p k)) r).2) else run p par w r
def okO (par : Nat → Nat) : List Nat → Prop
  | [] => True
  | k :: r => k ≠ 0 ∧ k ∉ r ∧ (par k = 0 ∨ par k ∈ r) ∧ okO par r
section
variable {p : Nat → Rat} {par : Nat → Nat}
theorem okO.n0 : ∀ {l : List Nat}, okO par l → 0 ∉ l
  | [], _ => by simp
  | k :: r, h => fun z => (List.mem_cons.mp z).elim (fun e => h.1 e.symm) (okO.n0 h.2.2.2)
theorem okO.nd : ∀ {l : List Nat}, okO par l → l.Nodup
  | [], _ => List.nodup_nil
  | k :: r, h => List.nodup_cons.mpr ⟨h.2.1, okO.nd h.2.2.2⟩
def scr (p w : Nat → Rat) (A : Nat → Bool) (l : List Nat) : Rat := w 0 + sm (fun k => if A k = true then w k - p k else 0) l
end
structure St (α : Type) where
  n : Nat
  par : Nat → Nat
  wy : Nat → List Nat
  ord : List Nat
  left : List α
  home : α → Nat
  p : Nat → Rat
structure Ok {α : Type} (T : St α) : Prop where
  z : T.wy 0 = []
  s : ∀ k, k ∈ T.ord → T.wy k = k :: T.wy (T.par k)
  oko : okO T.par T.ord
  hm : ∀ x, x ∈ T.left → T.home x = 0 ∨ T.home x ∈ T.ord
  nn : ∀ k, k ∈ T.ord → 0 ≤ T.p k
  nd : T.left.Nodup
section
variable {α : Type} (T : St α)
def w0 (m : Rat) : Nat → Rat := fun k => sm (fun x => if T.home x = k then m else 0) T.left
def K (m : Rat) : List Nat := (run T.p T.par (w0 T m) T.ord).2
def inG (m : Rat) (x : α) : Bool := (T.wy (T.home x)).all fun k => decide (k ∈ K T m)
def G (m : Rat) : List α := T.left.filter (inG T m)
def nds (S : List α) (k : Nat) : Bool := S.any fun x => decide (k ∈ T.wy (T.home x))
def cst (S : List α) : Rat := sm (fun k => if nds T S k = true then T.p k else 0) T.ord
end
section
variable {α : Type} {T : St α} {m : Rat}
end
end Sg
namespace Sg
section
variable {α : Type} {T : St α} {m : Rat}
def mn (T : St α) (S : List α) : Rat := cst T S / (S.length : Rat)
section
variable [DecidableEq α]
end
end
end Sg
noncomputable section
namespace Co
open PySem PySem.Spec PyProof.Rows L2 Pi
def par (Rs : List Rd3) (k : Nat) : Nat := ((Rs[k - 1]?).map (·.1)).getD 0
end Co
end
noncomputable section
namespace Co
open PySem PySem.Spec PyProof.Rows L2 Pi
abbrev St (l : List Nat) : Str := SX.S l
end Co
end
noncomputable section
namespace Co
open PySem PySem.Spec PyProof.Rows L2 Pi
end Co
end
noncomputable section
namespace Co
open PySem PySem.Spec PyProof.Rows L2 Pi
structure Ex where
  (t d p c m f n s tc sc : Nat)
section
variable {en en' : En} {ev : EvE} {t : En → Rs Bool} {s u : EvS} {d : D} {w : EvX} {r : Rs (D × En)}
theorem sIf_ff (h : t en = .ok false) : sIf t s sNil en = .ok (.nx en) := by rw [sIf_ap, h, bnd_ok, if_neg (by simp)]; rfl
theorem sIf_tt {q : Rs Fl} (h : t en = .ok true) (e : s en = q) : sIf t s u en = q := by rw [sIf_ap, h, bnd_ok, if_pos rfl]; exact e
theorem sYa_of {i : Nat} {p : D × En} (h : w en = .ok p) : sYa i w en = .ok (.nx (p.2.set i (some p.1))) := by unfold sYa; rw [h]; rfl
theorem xPure_of (h : ev en = .ok d) : xPure ev en = .ok (d, en) := by unfold xPure; rw [h]; rfl
theorem tO_f {a b : En → Rs Bool} {c : Bool} (h : a en = .ok false) (h2 : b en = .ok c) : tO a b en = .ok c := by rw [tO_ap, h, bnd_ok, if_neg (by simp)]; exact h2
theorem tO_t {a b : En → Rs Bool} (h : a en = .ok true) : tO a b en = .ok true := by rw [tO_ap, h, bnd_ok, if_pos rfl]
theorem tAn_f {a b : En → Rs Bool} (h : a en = .ok false) : tAn a b en = .ok false := by rw [tAn_ap, h, bnd_ok, if_neg (by simp)]
theorem tAn_t {a b : En → Rs Bool} {c : Bool} (h : a en = .ok true) (h2 : b en = .ok c) : tAn a b en = .ok c := by rw [tAn_ap, h, bnd_ok, if_pos rfl]; exact h2
theorem tNt_of {a : En → Rs Bool} {c : Bool} (h : a en = .ok c) : tNt a en = .ok (!c) := by rw [tNt_ap, h]; rfl
theorem aC_of {a : EvE} {ea : En → Rs (List D)} {ds : List D} (h : a en = .ok d) (h2 : ea en = .ok ds) : aCons a ea en = .ok (d :: ds) := by rw [aCons_ap, h, bnd_ok, h2]; rfl
theorem eTup_of {ea : En → Rs (List D)} {ds : List D} (h : ea en = .ok ds) : eTup ea en = .ok (.tup ds) := by rw [eTup_ap, h]; rfl
theorem sTu_of {is : List Nat} {ds : List D} (h : ev en = .ok (.tup ds)) (hl : ds.length = is.length) : sTu is ev en = .ok (.nx (setAll en is ds)) := by rw [sTu_ap, h, bnd_ok]; dsimp only; rw [if_pos hl]
theorem sApp_of {i : Nat} {l : List D} (h : getL i en = .ok l) (h2 : ev en = .ok d) (hl : l.length < 1000000) : sApp i ev en = .ok (.nx (en.set i (some (.lst (l ++ [d]))))) := by
  rw [sApp_ap, h, bnd_ok, h2, bnd_ok, if_pos (by rw [sizeLine_eq]; omega)]
theorem sSub_nat {i n : Nat} {l : List D} {ek : EvE} {j : Int} (h : getL i en = .ok l) (h2 : ev en = .ok d) (h3 : ek en = .ok (.int j)) (hn : ixN l.length j = some n) : sSub i ek ev en = .ok (.nx (en.set i (some (.lst (l.set n d))))) := by
  unfold sSub
  rw [h, bnd_ok, h2, bnd_ok, h3, bnd_ok]
  dsimp only
  rw [hn]
end
theorem oGt_f {i j : Int} (h : ¬ j < i) : oGt (.int i) (.int j) = some (.bl false) := by show some (D.bl (decide _)) = _; rw [decide_eq_false h]
theorem oGt_t {i j : Int} (h : j < i) : oGt (.int i) (.int j) = some (.bl true) := by show some (D.bl (decide _)) = _; rw [decide_eq_true h]
abbrev Stt := List Rd3 × Hms
def pastD (x : Ex) (past : List Stt) : List D := past.map fun p => .tup [tree x.tc p.1, homesD p.2]
def shire (x : Ex) (st : Stt) (past : List Stt) : D := .obj x.sc [tree x.tc st.1, homesD st.2, .lst (pastD x past)]
section
variable {x : Ex} {st : Stt} {past : List Stt} {r : En}
@[simp] theorem fld_0 : eFld x.sc 0 (eVar 0) (some (shire x st past) :: r) = .ok (tree x.tc st.1) := by simp [eFld, shire]
@[simp] theorem fld_1 : eFld x.sc 1 (eVar 0) (some (shire x st past) :: r) = .ok (homesD st.2) := by simp [eFld, shire]
@[simp] theorem fld_2 : eFld x.sc 2 (eVar 0) (some (shire x st past) :: r) = .ok (.lst (pastD x past)) := by simp [eFld, shire]
end
end Co
noncomputable section
namespace Co
open PySem PySem.Spec PyProof.Rows L2 Pi
theorem rmul_div (a b : Rat) : a * b = Rat.divInt (a.num * b.num) ((a.den : Int) * (b.den : Int)) := by
  conv => lhs; rw [← Rat.num_divInt_den a, ← Rat.num_divInt_den b]
  rw [Rat.divInt_mul_divInt]
theorem quo_div (a b : Rat) : a / b = Rat.divInt (a.num * (b.den : Int)) ((a.den : Int) * b.num) := by
  rw [Rat.div_def]
  conv => lhs; rw [← Rat.num_divInt_den a, ← Rat.num_divInt_den b]
  rw [Rat.inv_divInt, Rat.divInt_mul_divInt]
theorem rnum_ne {b : Rat} (h : b ≠ 0) : b.num ≠ 0 := fun z => h (Rat.num_eq_zero.mp z)
section
variable {m n m' n' e : Nat} {a b : Rat}
def s_prodE (e : Nat) : EvS := (sRet (eCall (f_ratioE e) (aCons (eFl (eB2 oMul (eB2 oIx (eVar 0) (eC (.int 0))) (eB2 oIx (eVar 1) (eC (.int 0))))) (aCons (eFl (eB2 oMul (eB2 oIx (eVar 0) (eC (.int 1))) (eB2 oIx (eVar 1) (eC (.int 1))))) aNil))))
def f_prodE (e : Nat) : List D → Rs D := runF 0 (s_prodE e)
theorem prodE_eq (ha : Rb m n a) (hb : Rb m' n' b) (h : n + n' ≤ 8900) (h1 : m < 1000000) (h2 : m' < 1000000) : f_prodE e [rD a, rD b] = .ok (rD (a * b)) := by
  have nz : (a.den : Int) * (b.den : Int) ≠ 0 := by have := den_mul_pos a b; omega
  have k1 := ha.num.ok hb.num (by omega) (by omega)
  have k3 := ha.den.ok hb.den (by omega) (by omega)
  have r := ratio8 (e := e) (t := a.num * b.num) nz ((ha.den.mul hb.den).mono h)
  rw [fr_rD nz, ← rmul_div] at r
  unfold rD at r ⊢
  simp [f_prodE, s_prodE, oMul_int k1, oMul_int k3, r]
def s_quotE (e : Nat) : EvS := (sRet (eCall (f_ratioE e) (aCons (eFl (eB2 oMul (eB2 oIx (eVar 0) (eC (.int 0))) (eB2 oIx (eVar 1) (eC (.int 1))))) (aCons (eFl (eB2 oMul (eB2 oIx (eVar 0) (eC (.int 1))) (eB2 oIx (eVar 1) (eC (.int 0))))) aNil))))
def f_quotE (e : Nat) : List D → Rs D := runF 0 (s_quotE e)
theorem quotE_eq (ha : Rb m n a) (hb : Rb m' n' b) (hz : b ≠ 0) (h : n + m' ≤ 8900) (h1 : m < 1000000) (h2 : n' < 1000000) : f_quotE e [rD a, rD b] = .ok (rD (a / b)) := by
  have nz : (a.den : Int) * b.num ≠ 0 := Int.mul_ne_zero (by have := den_pos a; omega) (rnum_ne hz)
  have k1 := ha.num.ok hb.den (by omega) (by omega)
  have k3 := ha.den.ok hb.num (by omega) (by omega)
  have r := ratio8 (e := e) (t := a.num * (b.den : Int)) nz ((ha.den.mul hb.num).mono h)
  rw [fr_rD nz, ← quo_div] at r
  unfold rD at r ⊢
  simp [f_quotE, s_quotE, oMul_int k1, oMul_int k3, r]
theorem restE_eq (ha : Rb m n a) (hb : Rb m' n' b) (h : n + n' ≤ 8900) (h1 : m < 1000000) (h2 : m' < 1000000) : f_restE e [rD a, rD b] = .ok (rD (a - b)) := by
  have nz : (a.den : Int) * (b.den : Int) ≠ 0 := by have := den_mul_pos a b; omega
  have k1 := ha.num.ok hb.den (by omega) (by omega)
  have k2 := hb.num.ok ha.den (by omega) (by omega)
  have k3 := ha.den.ok hb.den (by omega) (by omega)
  have r := ratio8 (e := e) (t := a.num * (b.den : Int) - b.num * (a.den : Int)) nz ((ha.den.mul hb.den).mono h)
  rw [fr_rD nz, ← sub_div] at r
  unfold rD at r ⊢
  simp [f_restE, s_restE, oMul_int k1, oMul_int k2, oMul_int k3, r]
theorem lessE_eq (ha : Rb m n a) (hb : Rb m' n' b) (h1 : m < 1000000) (h2 : n < 1000000) (h3 : m' < 1000000) (h4 : n' < 1000000) : f_less [rD a, rD b] = .ok (.bl (decide (a < b))) :=
  less_eq (ha.num.ok hb.den (by omega) (by omega)) (hb.num.ok ha.den (by omega) (by omega))
theorem Rb.mul (ha : Rb m n a) (hb : Rb m' n' b) : Rb (m + m') (n + n') (a * b) := by
  have nz : (a.den : Int) * (b.den : Int) ≠ 0 := by have := den_mul_pos a b; omega
  obtain ⟨e1, e2⟩ := num_of (t := a.num * b.num) nz
  rw [rmul_div]
  refine ⟨?_, ?_⟩
  · rw [e1]; exact (ha.num.mul hb.num).le (nu_le nz)
  · rw [e2]; exact (ha.den.mul hb.den).le (de_le nz)
theorem oEq_rL (a b : Rat) : oEq (rD a) (rD b) = some (.bl (decide (a = b))) := by
  show (if _ then some (D.bl (PyData.eqv (toP (rD a)) (toP (rD b)))) else none) = _
  rw [if_pos ⟨rfl, rfl⟩]
  have : PyData.eqv (toP (rD a)) (toP (rD b)) = decide (a = b) := by
    rw [Bool.eq_iff_iff]
    simp only [rD, toP, toPL, PyData.eqv, PyData.eqvAll, Bool.and_true, Bool.and_eq_true, decide_eq_true_eq, beq_iff_eq]
    constructor
    · rintro ⟨h1, h2⟩
      exact Rat.ext h1 (by exact Int.ofNat.inj h2)
    · rintro rfl
      simp
  rw [this]
theorem oNe_rL (a b : Rat) : oNe (rD a) (rD b) = some (.bl (!decide (a = b))) := by
  have h := oEq_rL a b
  have h' : (if _ then some (D.bl (PyData.eqv (toP (rD a)) (toP (rD b)))) else none) = some (.bl (decide (a = b))) := h
  rw [if_pos ⟨rfl, rfl⟩] at h'
  show (if _ then some (D.bl (!PyData.eqv (toP (rD a)) (toP (rD b)))) else none) = _
  rw [if_pos ⟨rfl, rfl⟩]
  have e : PyData.eqv (toP (rD a)) (toP (rD b)) = decide (a = b) := by injection h' with h'; injection h'
  rw [e]
abbrev gN : D := .tup [.int 0, .int 1]
abbrev gO : D := .tup [.int 1, .int 1]
def s_timesE (e : Nat) : EvS := (sSeq (sIf (tO (tV (eB2 oEq (eVar 0) (eC gN))) (tV (eB2 oEq (eVar 1) (eC gO))))
 (sRet (eFl (eVar 0)))
 sNil)
  (sRet (eCall (f_prodE e) (aCons (eVar 0) (aCons (eVar 1) aNil)))))
def f_timesE (e : Nat) : List D → Rs D := runF 0 (s_timesE e)
theorem timesE_eq (ha : Rb m n a) (hb : Rb m' n' b) (h : n + n' ≤ 8900) (h1 : m < 1000000) (h2 : m' < 1000000) : f_timesE e [rD a, rD b] = .ok (rD (a * b)) := by
  show endR (s_timesE e [some (rD a), some (rD b)]) = _
  unfold s_timesE
  by_cases h0 : a = 0
  · have : a * b = a := by rw [h0, Rat.zero_mul]
    rw [this, sSeq_ap, sIf_tt (tO_t (tV_of (b := true) (eB2_of rfl rfl (by rw [show gN = rD 0 from rfl, oEq_rL, decide_eq_true h0])))) (show sRet (eFl (eVar 0)) _ = .ok (.rt (rD a)) from by rw [sRet_ap, eFl_of rfl (flat_rD a)]; rfl)]
    rfl
  · have z1 : tV (eB2 oEq (eVar 0) (eC gN)) [some (rD a), some (rD b)] = .ok false := tV_of (eB2_of rfl rfl (by rw [show gN = rD 0 from rfl, oEq_rL, decide_eq_false h0]))
    by_cases h1' : b = 1
    · have : a * b = a := by rw [h1', Rat.mul_one]
      rw [this, sSeq_ap, sIf_tt (tO_f z1 (tV_of (b := true) (eB2_of rfl rfl (by rw [show gO = rD 1 from rfl, oEq_rL, decide_eq_true h1'])))) (show sRet (eFl (eVar 0)) _ = .ok (.rt (rD a)) from by rw [sRet_ap, eFl_of rfl (flat_rD a)]; rfl)]
      rfl
    · refine step_nx (sIf_ff (tO_f z1 (tV_of (b := false) (eB2_of rfl rfl (by rw [show gO = rD 1 from rfl, oEq_rL, decide_eq_false h1']))))) ?_
      rw [sRet_ap, eCall2_of rfl rfl (prodE_eq ha hb h h1 h2)]
      rfl
def s_lessofE (e : Nat) : EvS := (sSeq (sIf (tV (eB2 oEq (eVar 1) (eC gN)))
 (sRet (eFl (eVar 0)))
 sNil)
  (sRet (eCall (f_restE e) (aCons (eVar 0) (aCons (eCall (f_timesE e) (aCons (eVar 1) (aCons (eVar 2) aNil))) aNil)))))
def f_lessofE (e : Nat) : List D → Rs D := runF 0 (s_lessofE e)
theorem lessofE_eq {p q : Nat} {c : Rat} (ha : Rb m n a) (hb : Rb m' n' b) (hc : Rb p q c) (h : n + (n' + q) ≤ 8900) (h1 : m < 1000000) (h2 : m' < 500000) (h3 : p < 500000) : f_lessofE e [rD a, rD b, rD c] = .ok (rD (a - b * c)) := by
  show endR (s_lessofE e [some (rD a), some (rD b), some (rD c)]) = _
  unfold s_lessofE
  by_cases h0 : b = 0
  · have : a - b * c = a := by rw [h0]; grind
    rw [this, sSeq_ap, sIf_tt (tV_of (b := true) (eB2_of rfl rfl (by rw [show gN = rD 0 from rfl, oEq_rL, decide_eq_true h0]))) (show sRet (eFl (eVar 0)) _ = .ok (.rt (rD a)) from by rw [sRet_ap, eFl_of rfl (flat_rD a)]; rfl)]
    rfl
  · refine step_nx (sIf_ff (tV_of (b := false) (eB2_of rfl rfl (by rw [show gN = rD 0 from rfl, oEq_rL, decide_eq_false h0])))) ?_
    rw [sRet_ap, eCall2_of rfl (eCall2_of rfl rfl (timesE_eq hb hc (by omega) (by omega) (by omega))) (restE_eq ha (hb.mul hc) (by omega) h1 (by omega))]
    rfl
end
def s_plow : EvS := (sSeq (sAs 2 (eBi oAbs (aCons (eVar 0) aNil)))
  (sSeq (sAs 3 (eBi oAbs (aCons (eVar 1) aNil)))
  (sSeq (sWh (tV (eB2 oGt (eVar 3) (eC (.int 0))))
 (sPar 2 3 (eFl (eVar 3)) (eB2 oMod (eVar 2) (eVar 3))))
  (sSeq (sIf (tV (eB2 oLt (eVar 1) (eC (.int 0))))
 (sAs 2 (eU1 oNeg (eVar 2)))
 sNil)
  (sRet (eTup (aCons (eB2 oDiv (eVar 0) (eVar 2)) (aCons (eB2 oDiv (eVar 1) (eVar 2)) aNil))))))))
def f_plow : List D → Rs D := runF 2 s_plow
theorem plow_eq {t b : Int} (hb : b ≠ 0) (h : B 8900 b) : f_plow [.int t, .int b] = .ok (rD (Rat.divInt t b)) := by
  have h1 := prt_ok8 (t := t) hb h t
  have h2 := prt_ok8 (t := t) hb h b
  have lp := tlow_loop (.int t) (.int b) (b.natAbs : Int).natAbs (t.natAbs : Int) (b.natAbs : Int) (Nat.le_refl _) (by omega) (by omega)
  have eg : Int.gcd (t.natAbs : Int) (b.natAbs : Int) = Int.gcd t b := by simp [Int.gcd]
  rw [eg] at lp
  rw [← fr_rD hb]
  show endR (s_plow [some (.int t), some (.int b), none, none]) = _
  unfold s_plow
  refine step_nx (en' := [some (.int t), some (.int b), some (.int (t.natAbs : Int)), none]) (sAs_of (eBi1_of rfl (oAbs_int _))) ?_
  refine step_nx (en' := [some (.int t), some (.int b), some (.int (t.natAbs : Int)), some (.int (b.natAbs : Int))]) (sAs_of (eBi1_of rfl (oAbs_int _))) ?_
  refine step_nx lp ?_
  unfold fr nu de
  unfold prt at h1 h2 ⊢
  by_cases hn : b < 0
  · rw [if_pos hn] at h1 h2 ⊢
    refine step_nx (en' := [some (.int t), some (.int b), some (.int (-(Int.gcd t b : Int))), some (.int 0)]) (sIf_tt (tV_of (b := true) (eB2_of rfl rfl (by show some (D.bl (decide (b < 0))) = _; rw [decide_eq_true hn]))) rfl) ?_
    rw [sRet_ap, eTup_ap, aCons_ap, eB2_of rfl rfl (oDiv_int h1), bnd_ok, aCons_ap, eB2_of rfl rfl (oDiv_int h2)]
    rfl
  · rw [if_neg hn] at h1 h2 ⊢
    refine step_nx (sIf_ff (tV_of (b := false) (eB2_of rfl rfl (by show some (D.bl (decide (b < 0))) = _; rw [decide_eq_false hn])))) ?_
    rw [sRet_ap, eTup_ap, aCons_ap, eB2_of rfl rfl (oDiv_int h1), bnd_ok, aCons_ap, eB2_of rfl rfl (oDiv_int h2)]
    rfl
section
variable {m n m' n' e : Nat} {a b : Rat}
def s_pplus : EvS := (sRet (eCall f_plow (aCons (eB2 oAdd (eFl (eB2 oMul (eB2 oIx (eVar 0) (eC (.int 0))) (eB2 oIx (eVar 1) (eC (.int 1))))) (eFl (eB2 oMul (eB2 oIx (eVar 1) (eC (.int 0))) (eB2 oIx (eVar 0) (eC (.int 1)))))) (aCons (eFl (eB2 oMul (eB2 oIx (eVar 0) (eC (.int 1))) (eB2 oIx (eVar 1) (eC (.int 1))))) aNil))))
def f_pplus : List D → Rs D := runF 0 s_pplus
theorem pplus_eq (ha : Rb m n a) (hb : Rb m' n' b) (h : n + n' ≤ 8900) (h1 : m < 1000000) (h2 : m' < 1000000) : f_pplus [rD a, rD b] = .ok (rD (a + b)) := by
  have nz : (a.den : Int) * (b.den : Int) ≠ 0 := by have := den_mul_pos a b; omega
  have k1 := ha.num.ok hb.den (by omega) (by omega)
  have k2 := hb.num.ok ha.den (by omega) (by omega)
  have k3 := ha.den.ok hb.den (by omega) (by omega)
  have r := plow_eq (t := a.num * (b.den : Int) + b.num * (a.den : Int)) nz ((ha.den.mul hb.den).mono h)
  rw [← add_div] at r
  unfold rD at r ⊢
  simp [f_pplus, s_pplus, oMul_int k1, oMul_int k2, oMul_int k3, r]
def s_pless : EvS := (sRet (eCall f_plow (aCons (eB2 oSub (eFl (eB2 oMul (eB2 oIx (eVar 0) (eC (.int 0))) (eB2 oIx (eVar 1) (eC (.int 1))))) (eFl (eB2 oMul (eB2 oIx (eVar 1) (eC (.int 0))) (eB2 oIx (eVar 0) (eC (.int 1)))))) (aCons (eFl (eB2 oMul (eB2 oIx (eVar 0) (eC (.int 1))) (eB2 oIx (eVar 1) (eC (.int 1))))) aNil))))
def f_pless : List D → Rs D := runF 0 s_pless
theorem pless_eq (ha : Rb m n a) (hb : Rb m' n' b) (h : n + n' ≤ 8900) (h1 : m < 1000000) (h2 : m' < 1000000) : f_pless [rD a, rD b] = .ok (rD (a - b)) := by
  have nz : (a.den : Int) * (b.den : Int) ≠ 0 := by have := den_mul_pos a b; omega
  have k1 := ha.num.ok hb.den (by omega) (by omega)
  have k2 := hb.num.ok ha.den (by omega) (by omega)
  have k3 := ha.den.ok hb.den (by omega) (by omega)
  have r := plow_eq (t := a.num * (b.den : Int) - b.num * (a.den : Int)) nz ((ha.den.mul hb.den).mono h)
  rw [← sub_div] at r
  unfold rD at r ⊢
  simp [f_pless, s_pless, oMul_int k1, oMul_int k2, oMul_int k3, r]
def s_ptimes : EvS := (sRet (eCall f_plow (aCons (eFl (eB2 oMul (eB2 oIx (eVar 0) (eC (.int 0))) (eB2 oIx (eVar 1) (eC (.int 0))))) (aCons (eFl (eB2 oMul (eB2 oIx (eVar 0) (eC (.int 1))) (eB2 oIx (eVar 1) (eC (.int 1))))) aNil))))
def f_ptimes : List D → Rs D := runF 0 s_ptimes
theorem ptimes_eq (ha : Rb m n a) (hb : Rb m' n' b) (h : n + n' ≤ 8900) (h1 : m < 1000000) (h2 : m' < 1000000) : f_ptimes [rD a, rD b] = .ok (rD (a * b)) := by
  have nz : (a.den : Int) * (b.den : Int) ≠ 0 := by have := den_mul_pos a b; omega
  have k1 := ha.num.ok hb.num (by omega) (by omega)
  have k3 := ha.den.ok hb.den (by omega) (by omega)
  have r := plow_eq (t := a.num * b.num) nz ((ha.den.mul hb.den).mono h)
  rw [← rmul_div] at r
  unfold rD at r ⊢
  simp [f_ptimes, s_ptimes, oMul_int k1, oMul_int k3, r]
def s_pratio : EvS := (sSeq (sIf (tO (tNt (tV (eIsi .tuple (eVar 0)))) (tV (eB2 oNe (eBi oLen (aCons (eVar 0) aNil)) (eC (.int 2)))))
 (sRet (eC (.bl false)))
 sNil)
  (sSeq (sFor (iT (eVar 0)) (set1 1)
 (sIf (tO (tNt (tV (eIsi .int (eVar 1)))) (tV (eIsi .bool (eVar 1))))
 (sRet (eC (.bl false)))
 sNil))
  (sRet (eAn (eB2 oGt (eB2 oIx (eVar 0) (eC (.int 1))) (eC (.int 0))) (eB2 oEq (eCall f_plow (aCons (eB2 oIx (eVar 0) (eC (.int 0))) (aCons (eB2 oIx (eVar 0) (eC (.int 1))) aNil))) (eVar 0))))))
def f_pratio : List D → Rs D := runF 1 s_pratio
theorem pratio_eq (ha : Rb m n a) (h : n ≤ 8900) : f_pratio [rD a] = .ok (.bl true) := by
  have dp := den_pos a
  have pl := plow_eq (t := a.num) (b := (a.den : Int)) (by omega) (ha.den.mono h)
  rw [Rat.num_divInt_den] at pl
  have e1 : oEq (rD a) (rD a) = some (.bl true) := by rw [oEq_rL, decide_eq_true rfl]
  have g : oGt (.int (a.den : Int)) (.int 0) = some (.bl true) := by
    show some (D.bl (decide ((0 : Int) < (a.den : Int)))) = _
    rw [decide_eq_true dp]
  show endR (s_pratio [some (rD a), none]) = _
  unfold s_pratio
  refine step_nx (sIf_ff (tO_f (tNt_of (c := true) (tV_of (b := true) rfl)) (tV_of (b := false) (eB2_of (eBi1_of (x := rD a) rfl rfl) rfl (oNe_self rfl))))) ?_
  refine step_nx (en' := [some (rD a), some (.int (a.den : Int))]) rfl ?_
  rw [sRet_ap]
  show endR (bnd (bnd (eB2 oGt _ _ _) _) _) = _
  rw [eB2_of (x := .int (a.den : Int)) (eB2_of (x := rD a) rfl rfl rfl) rfl g, bnd_ok]
  show endR (bnd (eB2 oEq _ _ _) _) = _
  rw [eB2_of (eCall2_of (eB2_of (x := rD a) rfl rfl rfl) (eB2_of (x := rD a) rfl rfl rfl) pl) rfl e1]
  rfl
end
end Co
end
noncomputable section
namespace Co
open PySem PySem.Spec PyProof.Rows L2 Pi
def s_kcell : EvS := (sSeq (sIf (tV (eB2 oLt (eVar 1) (eBi oLen (aCons (eVar 0) aNil))))
    (sRet (eFl (eB2 oIx (eVar 0) (eVar 1))))
    sNil)
  (sRet (eC (.int 0))))
def f_kcell : List D → Rs D := runF 0 s_kcell
theorem kcell_eq (ns : List Int) (k : Nat) : ∃ z : Int, f_kcell [.scr ns, .int k] = .ok (.int z) := by
  by_cases h : k < ns.length
  · have h' : (k : Int) < (ns.length : Int) := by omega
    exact ⟨ns[k], by simp [f_kcell, s_kcell, h, oIx_scr h]⟩
  · exact ⟨0, by simp [f_kcell, s_kcell, h]⟩
section
variable {a b : Rat} {m n m' n' : Nat}
theorem Qn.rb {M : Int} {c d : Nat} {r : Rat} (h : Qn M c r) (hM : M ≠ 0) (bM : B d M) : Rb c d r := ⟨h.num hM, h.dv.den hM bM⟩
end
def s_drawn : EvS := (sSeq (sAs 2 (eLst aNil))
  (sSeq (sAs 3 (eFl (eVar 0)))
  (sSeq (sFor (iEn (aCons (eVar 1) aNil)) (setT [4, 5])
    (sIf (tV (eB2 oGe (eVar 0) (eB2 oPow (eC (.int 10)) (eC (.int 18)))))
    (sSeq (sApp 2 (eB2 oMod (eVar 3) (eVar 5)))
  (sAs 3 (eB2 oDiv (eVar 3) (eVar 5))))
    (sSeq (sAs 6 (eB2 oMod (eB2 oAdd (eB2 oAdd (eB2 oAdd (eFl (eB2 oMul (eVar 0) (eC (.int 48271)))) (eB2 oMul (eFl (eB2 oMul (eVar 4) (eVar 4))) (eC (.int 69621)))) (eFl (eB2 oMul (eC (.int 7)) (eVar 4)))) (eC (.int 11))) (eC (.int 2147483647))))
  (sApp 2 (eB2 oMod (eB2 oDiv (eB2 oMod (eB2 oAdd (eB2 oMul (eVar 6) (eC (.int 39373))) (eB2 oMul (eB2 oDiv (eVar 6) (eC (.int 65536))) (eFl (eB2 oAdd (eVar 4) (eC (.int 3)))))) (eC (.int 2147483629))) (eC (.int 7))) (eVar 5))))))
  (sRet (eVar 2)))))
def f_drawn : List D → Rs D := runF 5 s_drawn
inductive Row : List Int → List Int → Prop
  | nil : Row [] []
  | cons {x b : Int} {l bs : List Int} : 0 ≤ x → x < b → Row l bs → Row (x :: l) (b :: bs)
theorem Row.len : ∀ {l bs : List Int}, Row l bs → l.length = bs.length
  | _, _, .nil => rfl
  | _, _, .cons _ _ h => congrArg Nat.succ h.len
theorem Row.at : ∀ {l bs : List Int}, Row l bs → ∀ {i : Nat} {b : Int}, bs[i]? = some b → ∃ x : Int, l[i]? = some x ∧ 0 ≤ x ∧ x < b
  | _, _, .nil, i, b, h => by simp at h
  | _, _, .cons (x := x) h1 h2 h, 0, b, e => by simp at e; subst e; exact ⟨x, rfl, h1, h2⟩
  | _, _, .cons h1 h2 h, i + 1, b, e => h.at (i := i) (by simpa using e)
theorem Row.snoc : ∀ {l bs : List Int} {x b : Int}, Row l bs → 0 ≤ x → x < b → Row (l ++ [x]) (bs ++ [b])
  | _, _, x, b, .nil, h1, h2 => .cons h1 h2 .nil
  | _, _, x, b, .cons g1 g2 h, h1, h2 => .cons g1 g2 (h.snoc h1 h2)
theorem drawn_loop {c : Int} {bd : D} : ∀ (bs : List Int) (k : Nat) (acc pre : List Int) (rest : Int) (o4 o5 o6 : Option D), k + bs.length < 1000 → acc.length + bs.length < 1000 → (∀ b, b ∈ bs → 0 < b ∧ B 200 b) → Row acc pre →
    ∃ (l : List Int) (rest' : Int) (o4' o5' o6' : Option D), Row l (pre ++ bs) ∧ evFor (setT [4, 5]) (sIf (tV (eB2 oGe (eVar 0) (eB2 oPow (eC (.int 10)) (eC (.int 18)))))
    (sSeq (sApp 2 (eB2 oMod (eVar 3) (eVar 5)))
  (sAs 3 (eB2 oDiv (eVar 3) (eVar 5))))
    (sSeq (sAs 6 (eB2 oMod (eB2 oAdd (eB2 oAdd (eB2 oAdd (eFl (eB2 oMul (eVar 0) (eC (.int 48271)))) (eB2 oMul (eFl (eB2 oMul (eVar 4) (eVar 4))) (eC (.int 69621)))) (eFl (eB2 oMul (eC (.int 7)) (eVar 4)))) (eC (.int 11))) (eC (.int 2147483647))))
  (sApp 2 (eB2 oMod (eB2 oDiv (eB2 oMod (eB2 oAdd (eB2 oMul (eVar 6) (eC (.int 39373))) (eB2 oMul (eB2 oDiv (eVar 6) (eC (.int 65536))) (eFl (eB2 oAdd (eVar 4) (eC (.int 3)))))) (eC (.int 2147483629))) (eC (.int 7))) (eVar 5))))) (enumD k (bs.map .int)) [some (.int c), some bd, some (.lst (acc.map .int)), some (.int rest), o4, o5, o6] =
      .ok (.nx [some (.int c), some bd, some (.lst (l.map .int)), some (.int rest'), o4', o5', o6'])
  | [], k, acc, pre, rest, o4, o5, o6, _, _, _, hr => ⟨acc, rest, o4, o5, o6, by rw [List.append_nil]; exact hr, rfl⟩
  | b :: bs, k, acc, pre, rest, o4, o5, o6, hk, ha, hb, hr => by
    simp only [List.length_cons] at hk ha
    obtain ⟨b0, bb⟩ := hb b List.mem_cons_self
    have bne : b ≠ 0 := by omega
    have sz : (acc.map D.int).length < sizeLine := by rw [List.length_map, sizeLine_eq]; omega
    have ap : ∀ x, acc.map D.int ++ [.int x] = (acc ++ [x]).map .int := fun x => by simp
    have p18 : oPow (.int 10) (.int 18) = some (.int 1000000000000000000) := rfl
    have go : ∀ (x rest2 : Int) (o6' : Option D), 0 ≤ x → x < b → ∃ (l : List Int) (rest' : Int) (o4' o5' o6'' : Option D), Row l (pre ++ b :: bs) ∧ evFor (setT [4, 5]) _ (enumD (k + 1) (bs.map .int)) [some (.int c), some bd, some (.lst ((acc ++ [x]).map .int)), some (.int rest2), some (.int k), some (.int b), o6'] = .ok (.nx [some (.int c), some bd, some (.lst (l.map .int)), some (.int rest'), o4', o5', o6'']) := fun x rest2 o6' h1 h2 => by
      obtain ⟨l, r', a4, a5, a6, q1, q2⟩ := drawn_loop (c := c) (bd := bd) bs (k + 1) (acc ++ [x]) (pre ++ [b]) rest2 (some (.int k)) (some (.int b)) o6' (by omega) (by simp; omega) (fun y hy => hb y (List.mem_cons_of_mem _ hy)) (hr.snoc h1 h2)
      rw [List.append_assoc] at q1
      exact ⟨l, r', a4, a5, a6, q1, q2⟩
    by_cases hc : 1000000000000000000 ≤ c
    · have a1 := Int.fmod_nonneg_of_pos rest b0
      have a2 := Int.fmod_lt_of_pos rest b0
      obtain ⟨l, r', a4, a5, a6, q1, q2⟩ := go (rest.fmod b) (rest.fdiv b) o6 a1 a2
      refine ⟨l, r', a4, a5, a6, q1, ?_⟩
      have hd : oDiv (.int rest) (.int b) = some (.int (rest.fdiv b)) := oDiv_int (divOk_of (m := 200) bne bb (by decide) (by decide))
      rw [← q2, ← ap]
      show bnd (sIf _ _ _ [some (.int c), some bd, some (.lst (acc.map .int)), some (.int rest), some (.int k), some (.int b), o6]) _ = _
      generalize acc.map D.int = L at *
      simp [p18, hc, oMod_int bne, hd, sz]
    · have a1 : ∀ z : Int, 0 ≤ z.fmod b := fun z => Int.fmod_nonneg_of_pos z b0
      have a2 : ∀ z : Int, z.fmod b < b := fun z => Int.fmod_lt_of_pos z b0
      have m1 : mulOk c 48271 = true := mulOk_r (by decide)
      have m2 : mulOk (k : Int) (k : Int) = true := mulOk_l (by omega)
      have m3 : ∀ i, mulOk i 69621 = true := fun i => mulOk_r (by decide)
      have m4 : mulOk 7 (k : Int) = true := mulOk_l (by decide)
      have m5 : ∀ i, mulOk i 39373 = true := fun i => mulOk_r (by decide)
      have m6 : ∀ i, mulOk i ((k : Int) + 3) = true := fun i => mulOk_r (by omega)
      have d1 : ∀ i, oDiv (.int i) (.int 65536) = some (.int (i.fdiv 65536)) := fun i => oDiv_int (divOk_of (m := 17) (by decide) (by decide) (by decide) (by decide))
      have d2 : ∀ i, oDiv (.int i) (.int 7) = some (.int (i.fdiv 7)) := fun i => oDiv_int (divOk_of (m := 3) (by decide) (by decide) (by decide) (by decide))
      let one : Int := (c * 48271 + k * k * 69621 + 7 * k + 11).fmod 2147483647
      obtain ⟨l, r', a4, a5, a6, q1, q2⟩ := go ((((one * 39373 + one.fdiv 65536 * (k + 3)).fmod 2147483629).fdiv 7).fmod b) rest (some (.int one)) (a1 _) (a2 _)
      refine ⟨l, r', a4, a5, a6, q1, ?_⟩
      rw [← q2, ← ap]
      show bnd (sIf _ _ _ [some (.int c), some bd, some (.lst (acc.map .int)), some (.int rest), some (.int k), some (.int b), o6]) _ = _
      generalize acc.map D.int = L at *
      simp [p18, hc, oMod_int bne, oMod_int, sz, oMul_int m1, oMul_int m2, oMul_int (m3 _), oMul_int m4, oMul_int (m5 _), oMul_int (m6 _), d1, d2, one]
theorem drawn_eq (c : Int) {bs : List Int} (hl : bs.length < 900) (hb : ∀ b, b ∈ bs → 0 < b ∧ B 200 b) : ∃ l : List Int, Row l bs ∧ f_drawn [.int c, .lst (bs.map .int)] = .ok (.lst (l.map .int)) := by
  obtain ⟨l, r, a4, a5, a6, q1, q2⟩ := drawn_loop (c := c) (bd := .lst (bs.map .int)) bs 0 [] [] c none none none (by omega) (by simp; omega) hb .nil
  refine ⟨l, q1, ?_⟩
  unfold f_drawn
  rw [runF_ap]
  show endR (s_drawn [some (.int c), some (.lst (bs.map .int)), none, none, none, none, none]) = _
  unfold s_drawn
  refine step_nx (en' := [some (.int c), some (.lst (bs.map .int)), some (.lst []), none, none, none, none]) rfl ?_
  refine step_nx (en' := [some (.int c), some (.lst (bs.map .int)), some (.lst []), some (.int c), none, none, none]) rfl ?_
  refine step_nx (sFor_of (ds := enumD 0 (bs.map .int)) rfl q2) ?_
  rfl
end Co
end
noncomputable section
namespace Co
open PySem PySem.Spec PyProof.Rows L2 Pi
theorem flatten_one {α : Type} (x : α) (n : Nat) : (List.replicate n [x]).flatten = List.replicate n x := by
  induction n with
  | zero => rfl
  | succ n ih => rw [List.replicate_succ, List.flatten_cons, ih]; rfl
end Co
end
noncomputable section
namespace Co
open PySem PySem.Spec PyProof.Rows L2 Pi
theorem fmod_lt' {a b : Int} (hb : 0 < b) : ∃ n : Nat, a.fmod b = n ∧ (n : Int) < b := by
  have h1 := Int.fmod_nonneg_of_pos a hb
  have h2 := Int.fmod_lt_of_pos a hb
  exact ⟨(a.fmod b).toNat, by omega, by omega⟩
end Co
end
noncomputable section
namespace Co
open PySem PySem.Spec PyProof.Rows L2 Pi
end Co
end
noncomputable section
namespace Co
open PySem PySem.Spec PyProof.Rows L2 Pi
theorem eCall4_of {fn : List D → Rs D} {a b c d : EvE} {en : En} {x y z u : D} {r : Rs D} (h : a en = .ok x) (h2 : b en = .ok y) (h3 : c en = .ok z) (h4 : d en = .ok u) (q : fn [x, y, z, u] = r) : eCall fn (aCons a (aCons b (aCons c (aCons d aNil)))) en = r := by
  rw [eCall_ap, aCons_ap, h, bnd_ok, aCons_ap, h2, bnd_ok, aCons_ap, h3, bnd_ok, aCons_ap, h4, bnd_ok, aNil_ap]
  exact q
theorem blsL_map {α : Type} (p : α → Bool) : ∀ l : List α, blsL (l.map fun k => D.bl (p k)) = some (l.map p)
  | [] => rfl
  | x :: l => by
    show (blsL (l.map fun k => D.bl (p k))).map (p x :: ·) = _
    rw [blsL_map p l]
    rfl
theorem oAll_map {α : Type} (p : α → Bool) (l : List α) : oAll [.lst (l.map fun k => .bl (p k))] = some (.bl (l.all p)) := by
  show (blsL (l.map fun k => D.bl (p k))).map _ = _
  rw [blsL_map]
  show some (D.bl ((l.map p).all id)) = _
  rw [List.all_map]
  rfl
end Co
end
noncomputable section
namespace Co
open PySem PySem.Spec PyProof.Rows L2 Pi
end Co
end
noncomputable section
namespace Co
open PySem PySem.Spec PyProof.Rows L2 Pi
theorem cut_to (l : List D) (i : Nat) : Pi.cutD l none (some (i : Int)) = l.take i := by
  unfold Pi.cutD
  rw [HT.sIx_none, HT.sIx_nat, List.drop_zero, Nat.sub_zero]
  rcases Nat.le_total i l.length with h | h
  · rw [Nat.min_eq_left h]
  · rw [Nat.min_eq_right h, List.take_of_length_le (Nat.le_refl _), List.take_of_length_le h]
theorem cut_from (l : List D) (i : Nat) : Pi.cutD l (some (i : Int)) none = l.drop i := by
  unfold Pi.cutD
  rw [HT.sIx_none, HT.sIx_nat]
  rcases Nat.le_total i l.length with h | h
  · rw [Nat.min_eq_left h, List.take_of_length_le (by rw [List.length_drop]; omega)]
  · rw [Nat.min_eq_right h, Nat.sub_self, List.take_zero, List.drop_of_length_le h]
theorem eSl_to {a b : EvE} {en : En} {l : List D} {i : Nat} (h : a en = .ok (.lst l)) (hb : b en = .ok (.int (i : Nat))) : eSl a oNo (oYes b) en = .ok (.lst (l.take i)) := by
  unfold eSl
  rw [h, bnd_ok]
  show bnd (oYes b en) _ = _
  rw [oYes_ap, hb, bnd_ok]
  show ofO (some (D.lst (Pi.cutD l none (some (i : Int))))) = _
  rw [cut_to]
  rfl
theorem eSl_from {a b : EvE} {en : En} {l : List D} {i : Nat} (h : a en = .ok (.lst l)) (hb : b en = .ok (.int (i : Nat))) : eSl a (oYes b) oNo en = .ok (.lst (l.drop i)) := by
  unfold eSl
  rw [h, bnd_ok, oYes_ap, hb, bnd_ok]
  show ofO (some (D.lst (Pi.cutD l (some (i : Int)) none))) = _
  rw [cut_from]
  rfl
end Co
end
noncomputable section
namespace Co
open PySem PySem.Spec PyProof.Rows L2 Pi
abbrev RowQ : Type := Nat → Rat
abbrev Mat : Type := Nat → RowQ
def rwL (n : Nat) (a : RowQ) : List D := (List.range n).map fun j => rD (a j)
def rwD (n : Nat) (a : RowQ) : D := .lst (rwL n a)
def mtL (m n : Nat) (A : Mat) : List D := (List.range m).map fun i => rwD n (A i)
def mtD (m n : Nat) (A : Mat) : D := .lst (mtL m n A)
def upd1 {α : Type} (f : Nat → α) (k : Nat) (x : α) : Nat → α := fun i => if i = k then x else f i
theorem rwL_len (n : Nat) (a : RowQ) : (rwL n a).length = n := by unfold rwL; rw [List.length_map, List.length_range]
theorem mtL_len (m n : Nat) (A : Mat) : (mtL m n A).length = m := by unfold mtL; rw [List.length_map, List.length_range]
theorem map_range_congr {α : Type} {m : Nat} {f g : Nat → α} (h : ∀ i, i < m → f i = g i) : (List.range m).map f = (List.range m).map g :=
  List.map_congr_left fun i hi => h i (List.mem_range.mp hi)
theorem rwL_congr {n : Nat} {a b : RowQ} (h : ∀ j, j < n → a j = b j) : rwL n a = rwL n b := map_range_congr fun j hj => by rw [h j hj]
theorem rwD_congr {n : Nat} {a b : RowQ} (h : ∀ j, j < n → a j = b j) : rwD n a = rwD n b := by unfold rwD; rw [rwL_congr h]
theorem mtL_congr {m n : Nat} {A A' : Mat} (h : ∀ i, i < m → ∀ j, j < n → A i j = A' i j) : mtL m n A = mtL m n A' := map_range_congr fun i hi => rwD_congr (h i hi)
theorem map_range_set {α : Type} (m k : Nat) (f : Nat → α) (x : α) : ((List.range m).map f).set k x = (List.range m).map (upd1 f k x) := by
  apply List.ext_getElem
  · simp
  · intro i h1 h2
    rw [List.getElem_set]
    simp only [List.getElem_map, List.getElem_range, upd1]
    by_cases e : k = i
    · rw [if_pos e, if_pos e.symm]
    · rw [if_neg e, if_neg (fun q => e q.symm)]
theorem mtL_set (m n k : Nat) (A : Mat) (a : RowQ) : (mtL m n A).set k (rwD n a) = mtL m n (upd1 A k a) := by
  unfold mtL
  rw [map_range_set]
  exact map_range_congr fun i _ => by unfold upd1; by_cases e : i = k; · rw [if_pos e, if_pos e]
                                      · rw [if_neg e, if_neg e]
theorem rwL_set (n k : Nat) (a : RowQ) (x : Rat) : (rwL n a).set k (rD x) = rwL n (upd1 a k x) := by
  unfold rwL
  rw [map_range_set]
  exact map_range_congr fun i _ => by unfold upd1; by_cases e : i = k; · rw [if_pos e, if_pos e]
                                      · rw [if_neg e, if_neg e]
theorem rwL_snoc (n : Nat) (a : RowQ) (x : Rat) : rwL n a ++ [rD x] = rwL (n + 1) (upd1 a n x) := by
  unfold rwL
  rw [List.range_succ, List.map_append, List.map_cons, List.map_nil, upd1, if_pos rfl]
  congr 1
  exact map_range_congr fun j hj => by unfold upd1; rw [if_neg (by omega)]
theorem atR {α : Type} {n j : Nat} {f : Nat → α} (h : j < n) : ((List.range n).map f)[j]? = some (f j) := by
  rw [List.getElem?_map, List.getElem?_range h]; rfl
theorem oIx_nat {l : List D} {j : Nat} {d : D} (h : l[j]? = some d) : oIx (.lst l) (.int (j : Nat)) = some d := by
  obtain ⟨h1, rfl⟩ := List.getElem?_eq_some_iff.mp h
  exact oIx_lst h1
theorem oIx_rw {n j : Nat} {a : RowQ} (h : j < n) : oIx (rwD n a) (.int (j : Nat)) = some (rD (a j)) := oIx_nat (atR h)
theorem oIx_mt {m n i : Nat} {A : Mat} (h : i < m) : oIx (mtD m n A) (.int (i : Nat)) = some (rwD n (A i)) := oIx_nat (atR h)
theorem zip_maps {α : Type} (f g : α → D) : ∀ l : List α, zipD (l.map f) (l.map g) = l.map fun k => .tup [f k, g k]
  | [] => rfl
  | a :: l => by
    show D.tup [f a, g a] :: zipD (l.map f) (l.map g) = _
    rw [zip_maps f g l]
    rfl
theorem evFor_rng {set : En → D → Option En} {body : EvS} {q : Nat → D} (n : Nat) (P : Nat → En → Prop) (en : En) (h0 : P 0 en) (hs : ∀ i en, i < n → P i en → ∃ en1, set en (q i) = some en1 ∧ ∃ en2, body en1 = .ok (.nx en2) ∧ P (i + 1) en2) : ∃ en', evFor set body ((List.range n).map q) en = .ok (.nx en') ∧ P n en' := by
  obtain ⟨en', h1, h2⟩ := evFor_ix (set := set) (body := body) (P := P) ((List.range n).map q) 0 en h0 (by
    intro j d en hd hp
    rw [Nat.zero_add] at hp ⊢
    have hj : j < n := by
      have := (List.getElem?_eq_some_iff.mp hd).1
      rwa [List.length_map, List.length_range] at this
    rw [atR hj] at hd
    cases hd
    obtain ⟨en1, e1, en2, e2, e3⟩ := hs j en hj hp
    exact ⟨en1, en2, e1, e2, e3⟩)
  rw [List.length_map, List.length_range, Nat.zero_add] at h2
  exact ⟨en', h1, h2⟩
theorem evLc_flt {α : Type} {set : En → D → Option En} {t : En → Rs Bool} {e : EvE} {enb : En} {q r : α → D} {p : α → Bool} : ∀ l : List α, (∀ a, a ∈ l → ∃ en1, set enb (q a) = some en1 ∧ t en1 = .ok (p a) ∧ e en1 = .ok (r a)) → evLc set t e enb (l.map q) = .ok ((l.filter p).map r)
  | [], _ => rfl
  | a :: l, h => by
    obtain ⟨en1, h1, h2, h3⟩ := h a List.mem_cons_self
    have ih := evLc_flt l fun x hx => h x (List.mem_cons_of_mem _ hx)
    show bnd (ofO (set enb (q a))) _ = _
    rw [h1, ofO_some, bnd_ok, h2, bnd_ok, List.filter_cons]
    cases hp : p a with
    | true =>
      rw [if_pos rfl, if_pos rfl, h3, bnd_ok]
      show bnd (evLc set t e enb (l.map q)) _ = _
      rw [ih]
      rfl
    | false =>
      rw [if_neg (by simp), if_neg (by simp)]
      exact ih
theorem evFor_one {set : En → D → Option En} {body : EvS} {d : D} {ds : List D} {en en1 en2 : En} {r : Rs Fl} (h1 : set en d = some en1) (h2 : body en1 = .ok (.nx en2)) (h3 : evFor set body ds en2 = r) : evFor set body (d :: ds) en = r := by
  show bnd (ofO (set en d)) _ = _
  rw [h1, ofO_some, bnd_ok, h2, bnd_ok]
  exact h3
def S (a y : RowQ) : Nat → Rat
  | 0 => 0
  | n + 1 => S a y n + a n * y n
section
variable {a b y z : RowQ} {q : Rat}
theorem S_congr : ∀ {n : Nat}, (∀ j, j < n → a j * y j = b j * z j) → S a y n = S b z n
  | 0, _ => rfl
  | n + 1, h => by
    show S a y n + a n * y n = S b z n + b n * z n
    rw [S_congr fun j hj => h j (by omega), h n (by omega)]
theorem S_zero : ∀ {n : Nat}, (∀ j, j < n → a j * y j = 0) → S a y n = 0
  | 0, _ => rfl
  | n + 1, h => by
    show S a y n + a n * y n = 0
    rw [S_zero fun j hj => h j (by omega), h n (by omega), Rat.add_zero]
theorem S_one {c : Nat} : ∀ {n : Nat}, c < n → (∀ j, j < n → j ≠ c → a j * y j = 0) → S a y n = a c * y c
  | 0, h, _ => by omega
  | n + 1, h, k => by
    show S a y n + a n * y n = _
    by_cases e : n = c
    · subst e
      rw [S_zero fun j hj => k j (by omega) (by omega), Rat.zero_add]
    · rw [S_one (by omega) fun j hj ne => k j (by omega) ne, k n (by omega) e, Rat.add_zero]
theorem S_scale : ∀ n : Nat, S (fun j => a j * q) y n = S a y n * q
  | 0 => (Rat.zero_mul q).symm
  | n + 1 => by
    show S _ y n + a n * q * y n = (S a y n + a n * y n) * q
    rw [S_scale n]; grind
theorem S_lin : ∀ n : Nat, S (fun j => a j - b j * q) y n = S a y n - S b y n * q
  | 0 => by show (0 : Rat) = 0 - 0 * q; grind
  | n + 1 => by
    show S _ y n + (a n - b n * q) * y n = (S a y n + a n * y n) - (S b y n + b n * y n) * q
    rw [S_lin n]; grind
theorem S_upd {c : Nat} {x : Rat} : ∀ {n : Nat}, c < n → S a (upd1 y c x) n = S a y n + a c * (x - y c)
  | 0, h => by omega
  | n + 1, h => by
    show S a (upd1 y c x) n + a n * upd1 y c x n = S a y n + a n * y n + _
    by_cases e : n = c
    · subst e
      have : S a (upd1 y n x) n = S a y n := S_congr fun j hj => by unfold upd1; rw [if_neg (by omega)]
      rw [this]
      unfold upd1
      rw [if_pos rfl]
      grind
    · rw [S_upd (by omega)]
      unfold upd1
      rw [if_neg e]
      grind
end
def Rw (s t n : Nat) (a : RowQ) : Prop := ∃ M : Int, 0 < M ∧ B t M ∧ ∀ j, j < n → Qn M s (a j)
section
variable {s t s' t' n : Nat} {a b : RowQ} {q : Rat}
theorem Rw.rb (h : Rw s t n a) {j : Nat} (hj : j < n) : Rb s t (a j) := by
  obtain ⟨M, p, bM, q⟩ := h
  exact ⟨(q j hj).num (by omega), (q j hj).dv.den (by omega) bM⟩
theorem Rw.mono (h : Rw s t n a) (h1 : s ≤ s') (h2 : t ≤ t') : Rw s' t' n a := by
  obtain ⟨M, p, bM, q⟩ := h
  exact ⟨M, p, bM.mono h2, fun j hj => (q j hj).mono h1⟩
theorem Rw.congr (h : Rw s t n a) (e : ∀ j, j < n → a j = b j) : Rw s t n b := by
  obtain ⟨M, p, bM, q⟩ := h
  exact ⟨M, p, bM, fun j hj => e j hj ▸ q j hj⟩
theorem divInt_ne {z M : Int} (hM : M ≠ 0) (h : Rat.divInt z M ≠ 0) : z ≠ 0 := fun e => h (by rw [e, Rat.zero_divInt])
theorem div_cancel {x z M : Int} (hM : M ≠ 0) : Rat.divInt x M * (1 / Rat.divInt z M) = Rat.divInt x z := by
  have : (1 : Rat) / Rat.divInt z M = Rat.divInt M z := by rw [Rat.div_def, Rat.inv_divInt, Rat.one_mul]
  rw [this, Rat.divInt_mul_divInt, Int.mul_comm x M, Rat.divInt_mul_left hM]
theorem Rw.scale {c : Nat} (h : Rw s t n a) (hc : c < n) (ne : a c ≠ 0) : Rw s s n (fun j => a j * (1 / a c)) := by
  obtain ⟨M, p, bM, q⟩ := h
  obtain ⟨z, ez, bz⟩ := q c hc
  have z0 : z ≠ 0 := divInt_ne (M := M) (by omega) (ez ▸ ne)
  by_cases hz : 0 < z
  · refine ⟨z, hz, bz, fun j hj => ?_⟩
    obtain ⟨x, ex, bx⟩ := q j hj
    exact ⟨x, by show a j * (1 / a c) = _; rw [ex, ez, div_cancel (by omega)], bx⟩
  · refine ⟨-z, by omega, by unfold B at *; rw [Int.natAbs_neg]; exact bz, fun j hj => ?_⟩
    obtain ⟨x, ex, bx⟩ := q j hj
    exact ⟨-x, by show a j * (1 / a c) = _; rw [ex, ez, div_cancel (by omega)]; exact (Rat.divInt_eq_divInt_iff z0 (by omega)).mpr (by rw [Int.mul_neg, Int.neg_mul]), by unfold B at *; rw [Int.natAbs_neg]; exact bx⟩
theorem Rw.elim {c u : Nat} (h : Rw s t n a) (g : Rw u u n b) (hc : c < n) : Rw (s + u + 1) (t + u) n (fun j => a j - b j * a c) := by
  obtain ⟨M, p, bM, q⟩ := h
  obtain ⟨P, p', bP, q'⟩ := g
  obtain ⟨z, ez, bz⟩ := q c hc
  refine ⟨M * P, Int.mul_pos p p', bM.mul bP, fun j hj => ?_⟩
  obtain ⟨x, ex, bx⟩ := q j hj
  obtain ⟨y, ey, by_⟩ := q' j hj
  refine ⟨x * P - y * z, ?_, (bx.mul bP).sub ((by_.mul bz).mono (by omega))⟩
  show a j - b j * a c = _
  rw [ex, ey, ez, Rat.divInt_mul_divInt, Int.mul_comm P M, Rat.sub_eq_add_neg, Rat.neg_divInt, Int.sub_eq_add_neg, show Rat.divInt x M = Rat.divInt (x * P) (M * P) from (Rat.divInt_mul_right (by omega)).symm, Rat.divInt_add_divInt _ _ (by have := Int.mul_pos p p'; omega) (by have := Int.mul_pos p p'; omega), ← Int.add_mul, Rat.divInt_mul_right (by have := Int.mul_pos p p'; omega)]
theorem Rb.div {m n m' n' : Nat} {a b : Rat} (ha : Rb m n a) (hb : Rb m' n' b) (hz : b ≠ 0) : Rb (m + n') (n + m') (a / b) := by
  have nz : (a.den : Int) * b.num ≠ 0 := Int.mul_ne_zero (by have := den_pos a; omega) (rnum_ne hz)
  obtain ⟨e1, e2⟩ := num_of (t := a.num * (b.den : Int)) nz
  rw [quo_div]
  refine ⟨?_, ?_⟩
  · rw [e1]; exact (ha.num.mul hb.den).le (nu_le nz)
  · rw [e2]; exact (ha.den.mul hb.num).le (de_le nz)
end
section
variable {s t s' t' n e : Nat} {a b : RowQ} {q : Rat}
def s_trowE (e : Nat) : EvS := (sRet (eLc [2] (iL (eVar 0)) (set1 2) (fun _ => .ok true) (eCall (f_timesE e) (aCons (eVar 2) (aCons (eVar 1) aNil)))))
def f_trowE (e : Nat) : List D → Rs D := runF 1 (s_trowE e)
theorem trowE_eq (ha : ∀ j, j < n → Rb s t (a j)) (hq : Rb s' t' q) (h : t + t' ≤ 8900) (h1 : s < 1000000) (h2 : s' < 1000000) (hn : n < 1000000) : f_trowE e [rwD n a, rD q] = .ok (rwD n fun j => a j * q) := by
  have lc : evLc (set1 2) (fun _ => .ok true) (eCall (f_timesE e) (aCons (eVar 2) (aCons (eVar 1) aNil))) (wipE [2] [some (rwD n a), some (rD q), none]) (rwL n a) = .ok (rwL n fun j => a j * q) :=
    evLc_map (q := fun j => rD (a j)) (r := fun j => rD (a j * q)) (List.range n) fun j hj => ⟨_, rfl, eCall2_of rfl rfl (timesE_eq (ha j (List.mem_range.mp hj)) hq h h1 h2)⟩
  show endR (bnd (eLc _ _ _ _ _ [some (rwD n a), some (rD q), none]) _) = _
  rw [eLc_ap (iL_of rfl) lc (by rw [rwL_len]; exact hn)]
  rfl
def s_lrowE (e : Nat) : EvS := (sSeq (sIf (tV (eB2 oEq (eVar 2) (eC gN)))
 (sRet (eVar 0))
 sNil)
  (sRet (eLc [3, 4] (iZp (aCons (eVar 0) (aCons (eVar 1) aNil))) (setT [3, 4]) (fun _ => .ok true) (eCall (f_lessofE e) (aCons (eVar 3) (aCons (eVar 4) (aCons (eVar 2) aNil)))))))
def f_lrowE (e : Nat) : List D → Rs D := runF 2 (s_lrowE e)
theorem lrowE_eq (ha : ∀ j, j < n → Rb s t (a j)) (hb : ∀ j, j < n → Rb s' t' (b j)) (hq : Rb s t q) (h : t + (t' + t) ≤ 8900) (h1 : s < 500000) (h2 : s' < 500000) (hn : n < 1000000) : f_lrowE e [rwD n a, rwD n b, rD q] = .ok (rwD n fun j => a j - b j * q) := by
  show endR (s_lrowE e [some (rwD n a), some (rwD n b), some (rD q), none, none]) = _
  unfold s_lrowE
  by_cases h0 : q = 0
  · have : (fun j => a j - b j * q) = a := by funext j; rw [h0]; grind
    rw [this, sSeq_ap, sIf_tt (tV_of (b := true) (eB2_of rfl rfl (by rw [show gN = rD 0 from rfl, oEq_rL, decide_eq_true h0]))) (show sRet (eVar 0) _ = .ok (.rt (rwD n a)) from rfl)]
    rfl
  · refine step_nx (sIf_ff (tV_of (b := false) (eB2_of rfl rfl (by rw [show gN = rD 0 from rfl, oEq_rL, decide_eq_false h0])))) ?_
    have lc : evLc (setT [3, 4]) (fun _ => .ok true) (eCall (f_lessofE e) (aCons (eVar 3) (aCons (eVar 4) (aCons (eVar 2) aNil)))) (wipE [3, 4] [some (rwD n a), some (rwD n b), some (rD q), none, none]) (zipD (rwL n a) (rwL n b)) = .ok (rwL n fun j => a j - b j * q) := by
      unfold rwL
      rw [zip_maps]
      exact evLc_map (q := fun j => .tup [rD (a j), rD (b j)]) (r := fun j => rD (a j - b j * q)) (List.range n) fun j hj => ⟨_, rfl, eCall3_of rfl rfl rfl (lessofE_eq (ha j (List.mem_range.mp hj)) (hb j (List.mem_range.mp hj)) hq h (by omega) h2 h1)⟩
    rw [sRet_ap, eLc_ap (iZp_of rfl rfl) lc (by rw [rwL_len]; exact hn)]
    rfl
def s_ptotal : EvS := (sSeq (sAs 1 (eTup (aCons (eC (.int 0)) (aCons (eC (.int 1)) aNil))))
  (sSeq (sFor (iL (eVar 0)) (set1 2)
 (sAs 1 (eCall f_pplus (aCons (eVar 1) (aCons (eVar 2) aNil)))))
  (sRet (eVar 1))))
def f_ptotal : List D → Rs D := runF 2 s_ptotal
def s_pdot : EvS := (sRet (eCall f_ptotal (aCons (eLc [2, 3] (iZp (aCons (eVar 0) (aCons (eVar 1) aNil))) (setT [2, 3]) (fun _ => .ok true) (eCall f_ptimes (aCons (eVar 2) (aCons (eVar 3) aNil)))) aNil)))
def f_pdot : List D → Rs D := runF 2 s_pdot
end
end Co
end
noncomputable section
namespace Co
open PySem PySem.Spec PyProof.Rows L2 Pi
structure Gs (m n : Nat) (A0 A : Mat) (c k : Nat) (h : Nat → Nat) : Prop where
  km : k ≤ m
  lt : ∀ i, i < k → h i < c
  inc : ∀ i i', i < i' → i' < k → h i < h i'
  one : ∀ i, i < k → A i (h i) = 1
  nul : ∀ i, i < k → ∀ i', i' < m → i' ≠ i → A i' (h i) = 0
  zer : ∀ i, i < m → k ≤ i → ∀ j, j < c → A i j = 0
  sol : ∀ y, (∀ i, i < m → S (A i) y (n + 1) = 0) ↔ (∀ i, i < m → S (A0 i) y (n + 1) = 0)
def sw (A : Mat) (k j : Nat) : Mat := upd1 (upd1 A k (A j)) j (A k)
def sca (A : Mat) (k c : Nat) : Mat := upd1 A k fun j => A k j * (1 / A k c)
def elm (A : Mat) (k c : Nat) : Mat := fun i => if i = k then A k else fun j => A i j - A k j * A i c
section
variable {m n c k : Nat} {A0 A : Mat} {h : Nat → Nat}
theorem Gs.start (m n : Nat) (A : Mat) (h : Nat → Nat) : Gs m n A A 0 0 h where
  km := Nat.zero_le _
  lt := fun i hi => by omega
  inc := fun i i' _ hi => by omega
  one := fun i hi => by omega
  nul := fun i hi => by omega
  zer := fun i _ _ j hj => by omega
  sol := fun y => Iff.rfl
theorem Gs.skip (g : Gs m n A0 A c k h) (z : ∀ i, i < m → k ≤ i → A i c = 0) : Gs m n A0 A (c + 1) k h where
  km := g.km
  lt := fun i hi => Nat.lt_succ_of_lt (g.lt i hi)
  inc := g.inc
  one := g.one
  nul := g.nul
  zer := fun i hi ki j hj => by
    by_cases e : j = c
    · exact e ▸ z i hi ki
    · exact g.zer i hi ki j (by omega)
  sol := g.sol
theorem sw_at (A : Mat) (k j i : Nat) : sw A k j i = if i = j then A k else if i = k then A j else A i := rfl
theorem Gs.sw {j : Nat} (g : Gs m n A0 A c k h) (hj : k ≤ j) (jm : j < m) : Gs m n A0 (sw A k j) c k h where
  km := g.km
  lt := g.lt
  inc := g.inc
  one := fun i hi => by rw [sw_at, if_neg (by omega), if_neg (by omega)]; exact g.one i hi
  nul := fun i hi i' hi' ne => by
    rw [sw_at]
    split
    · exact g.nul i hi k (by omega) (by omega)
    · split
      · exact g.nul i hi j jm (by omega)
      · exact g.nul i hi i' hi' ne
  zer := fun i hi ki j' hj' => by
    rw [sw_at]
    split
    · exact g.zer k (by omega) (Nat.le_refl _) j' hj'
    · split
      · exact g.zer j jm hj j' hj'
      · exact g.zer i hi ki j' hj'
  sol := fun y => by
    rw [← g.sol y]
    constructor
    · intro q i hi
      by_cases e : i = j
      · subst e
        have := q k (by omega)
        rw [sw_at] at this
        by_cases e2 : k = i
        · subst e2; rwa [if_pos rfl] at this
        · rwa [if_neg e2, if_pos rfl] at this
      · by_cases e2 : i = k
        · subst e2
          have := q j jm
          rwa [sw_at, if_pos rfl] at this
        · have := q i hi
          rwa [sw_at, if_neg e, if_neg e2] at this
    · intro q i hi
      rw [sw_at]
      split
      · exact q k (by omega)
      · split
        · exact q j jm
        · exact q i hi
theorem sca_k (A : Mat) (k c : Nat) : sca A k c k = fun j => A k j * (1 / A k c) := by unfold sca upd1; rw [if_pos rfl]
theorem sca_i {A : Mat} {k c i : Nat} (e : i ≠ k) : sca A k c i = A i := by unfold sca upd1; rw [if_neg e]
theorem elm_k (A : Mat) (k c : Nat) : elm A k c k = A k := by unfold elm; rw [if_pos rfl]
theorem elm_i {A : Mat} {k c i : Nat} (e : i ≠ k) : elm A k c i = fun j => A i j - A k j * A i c := by unfold elm; rw [if_neg e]
theorem div_self' {p : Rat} (h : p ≠ 0) : p * (1 / p) = 1 := by rw [Rat.div_def, Rat.one_mul, Rat.mul_inv_cancel _ h]
theorem Gs.turn (g : Gs m n A0 A c k h) (kl : k < m) (p : A k c ≠ 0) : Gs m n A0 (elm (sca A k c) k c) (c + 1) (k + 1) (upd1 h k c) := by
  have hw : ∀ j, elm (sca A k c) k c k j = A k j * (1 / A k c) := fun j => by rw [elm_k, sca_k]
  have ho : ∀ i j, i ≠ k → elm (sca A k c) k c i j = A i j - A k j * (1 / A k c) * A i c := fun i j e => by rw [elm_i e, sca_i e, sca_k]
  have kz : ∀ j, j < c → A k j = 0 := fun j hj => g.zer k kl (Nat.le_refl _) j hj
  have old : ∀ i j, i ≠ k → j < c → elm (sca A k c) k c i j = A i j := fun i j e hj => by rw [ho i j e, kz j hj, Rat.zero_mul, Rat.zero_mul]; grind
  have uk : upd1 h k c k = c := by unfold upd1; rw [if_pos rfl]
  have ui : ∀ i, i ≠ k → upd1 h k c i = h i := fun i e => by unfold upd1; rw [if_neg e]
  refine ⟨by omega, ?_, ?_, ?_, ?_, ?_, ?_⟩
  · intro i hi
    by_cases e : i = k
    · rw [e, uk]; omega
    · rw [ui i e]; have := g.lt i (by omega); omega
  · intro i i' h1 h2
    rw [ui i (by omega)]
    by_cases e : i' = k
    · rw [e, uk]; exact g.lt i (by omega)
    · rw [ui i' e]; exact g.inc i i' h1 (by omega)
  · intro i hi
    by_cases e : i = k
    · rw [e, uk, hw, div_self' p]
    · rw [ui i e, old i _ e (g.lt i (by omega))]; exact g.one i (by omega)
  · intro i hi i' hi' ne
    by_cases e : i = k
    · rw [e, uk, ho i' c (by omega), div_self' p]; grind
    · rw [ui i e]
      have hl := g.lt i (by omega)
      by_cases e2 : i' = k
      · rw [e2, hw, kz _ hl, Rat.zero_mul]
      · rw [old i' _ e2 hl]; exact g.nul i (by omega) i' hi' ne
  · intro i hi ki j hj
    by_cases e : j = c
    · rw [e, ho i c (by omega), div_self' p]; grind
    · rw [old i j (by omega) (by omega)]; exact g.zer i hi (by omega) j (by omega)
  · intro y
    rw [← g.sol y]
    have sk : S (elm (sca A k c) k c k) y (n + 1) = S (A k) y (n + 1) * (1 / A k c) := by rw [elm_k, sca_k]; exact S_scale _
    have si : ∀ i, i ≠ k → S (elm (sca A k c) k c i) y (n + 1) = S (A i) y (n + 1) - S (A k) y (n + 1) * (1 / A k c) * A i c := fun i e => by rw [elm_i e, S_lin, sca_i e, sca_k, S_scale]
    constructor
    · intro q
      have q0 := q k kl
      rw [sk] at q0
      have q1 : S (A k) y (n + 1) = 0 := by
        have : S (A k) y (n + 1) = S (A k) y (n + 1) * (1 / A k c) * A k c := by
          rw [Rat.mul_assoc, Rat.mul_comm (1 / A k c), div_self' p, Rat.mul_one]
        rw [this, q0, Rat.zero_mul]
      intro i hi
      by_cases e : i = k
      · rw [e]; exact q1
      · have := q i hi
        rw [si i e, q1] at this
        grind
    · intro q i hi
      by_cases e : i = k
      · rw [e, sk, q k kl, Rat.zero_mul]
      · rw [si i e, q k kl, q i hi]; grind
def fX (A : Mat) (h : Nat → Nat) (n : Nat) : Nat → RowQ
  | 0 => fun _ => 0
  | i + 1 => upd1 (fX A h n i) (h i) (A i n)
theorem fX_at (g : Gs m n A0 A c k h) : ∀ {k' : Nat}, k' ≤ k → ∀ i, i < k' → fX A h n k' (h i) = A i n
  | 0, _, i, hi => by omega
  | k' + 1, hk, i, hi => by
    show upd1 (fX A h n k') (h k') (A k' n) (h i) = _
    unfold upd1
    by_cases e : i = k'
    · rw [e, if_pos rfl]
    · rw [if_neg (by have := g.inc i k' (by omega) (by omega); omega)]
      exact fX_at g (by omega) i (by omega)
theorem fX_no : ∀ {k' j : Nat}, (∀ i, i < k' → h i ≠ j) → fX A h n k' j = 0
  | 0, _, _ => rfl
  | k' + 1, j, q => by
    show upd1 (fX A h n k') (h k') (A k' n) j = _
    unfold upd1
    rw [if_neg (fun e => q k' (by omega) e.symm)]
    exact fX_no fun i hi => q i (by omega)
theorem S_last (a x : RowQ) (n : Nat) : S a (upd1 x n (-1)) (n + 1) = S a x n - a n := by
  have : S a (upd1 x n (-1)) n = S a x n := S_congr fun j hj => by unfold upd1; rw [if_neg (by omega)]
  show S a (upd1 x n (-1)) n + a n * upd1 x n (-1) n = _
  rw [this]
  unfold upd1
  rw [if_pos rfl]
  grind
theorem Gs.found (g : Gs m n A0 A n k h) (z : ∀ i, i < m → k ≤ i → A i n = 0) : ∀ i, i < m → S (A0 i) (fX A h n k) n = A0 i n := by
  have := (g.sol (upd1 (fX A h n k) n (-1))).mp (by
    intro i hi
    rw [S_last]
    by_cases e : i < k
    · rw [S_one (g.lt i e) (fun j hj ne => ?_), g.one i e, fX_at g (Nat.le_refl _) i e]
      · grind
      · by_cases q : ∃ i', i' < k ∧ h i' = j
        · obtain ⟨i', h1, h2⟩ := q
          rw [← h2, g.nul i' h1 i hi (fun e => ne (by rw [← h2, e])), Rat.zero_mul]
        · rw [fX_no (fun i' h1 h2 => q ⟨i', h1, h2⟩), Rat.mul_zero]
    · rw [S_zero (fun j hj => by rw [g.zer i hi (by omega) j hj, Rat.zero_mul]), z i hi (by omega)]
      grind)
  intro i hi
  have := this i hi
  rw [S_last] at this
  grind
theorem Gs.none (g : Gs m n A0 A n k h) {i : Nat} (hi : i < m) (ki : k ≤ i) (z : A i n ≠ 0) : ¬ ∃ x, ∀ i, i < m → S (A0 i) x n = A0 i n := by
  rintro ⟨x, q⟩
  have := (g.sol (upd1 x n (-1))).mpr (fun i hi => by rw [S_last, q i hi]; grind) i hi
  rw [S_last, S_zero (fun j hj => by rw [g.zer i hi ki j hj, Rat.zero_mul])] at this
  exact z (by grind)
end
def sP (s : Nat) : Nat → Nat
  | 0 => s
  | k + 1 => 2 * sP s k + 1
def tP (s t : Nat) : Nat → Nat
  | 0 => t
  | k + 1 => tP s t k + sP s k
theorem sP_mono (s : Nat) {k k' : Nat} (h : k ≤ k') : sP s k ≤ sP s k' := by
  induction k' with
  | zero => rw [Nat.le_zero.mp h]; exact Nat.le_refl _
  | succ k' ih =>
    by_cases e : k = k' + 1
    · rw [e]; exact Nat.le_refl _
    · have := ih (by omega)
      show sP s k ≤ 2 * sP s k' + 1
      omega
theorem tP_mono (s t : Nat) {k k' : Nat} (h : k ≤ k') : tP s t k ≤ tP s t k' := by
  induction k' with
  | zero => rw [Nat.le_zero.mp h]; exact Nat.le_refl _
  | succ k' ih =>
    by_cases e : k = k' + 1
    · rw [e]; exact Nat.le_refl _
    · have := ih (by omega)
      show tP s t k ≤ tP s t k' + sP s k'
      omega
section
variable {m n s t c k j : Nat} {A : Mat}
end
end Co
end
noncomputable section
namespace Co
open PySem PySem.Spec PyProof.Rows L2 Pi
def hdL (k : Nat) (h : Nat → Nat) : List D := (List.range k).map fun i => .int (h i : Nat)
theorem hdL_len (k : Nat) (h : Nat → Nat) : (hdL k h).length = k := by unfold hdL; rw [List.length_map, List.length_range]
section
variable {R r : D} {m n s t c k j e : Nat} {A : Mat} {h : Nat → Nat} {o5 o6 o7 o8 o9 o10 o11 o12 o13 : Option D}
def elN (A : Mat) (k c i : Nat) : Mat := fun i' => if i' < i then elm A k c i' else A i'
theorem elN_at (A : Mat) (k c : Nat) {i i' : Nat} (h : i ≤ i' ∨ i' = k) : elN A k c i i' = A i' := by
  unfold elN
  rcases h with h | h
  · rw [if_neg (by omega)]
  · rw [h, elm_k, ite_self]
theorem elN_k (A : Mat) (k c : Nat) : elN A k c (k + 1) = elN A k c k := by
  funext i'
  unfold elN
  by_cases e : i' = k
  · rw [e, elm_k, ite_self, ite_self]
  · by_cases q : i' < k
    · rw [if_pos q, if_pos (by omega)]
    · rw [if_neg q, if_neg (by omega)]
theorem elN_s (A : Mat) (k c i : Nat) : elN A k c (i + 1) = upd1 (elN A k c i) i (elm A k c i) := by
  funext i'
  unfold elN upd1
  by_cases e : i' = i
  · rw [if_pos e, if_pos (by omega), e]
  · rw [if_neg e]
    dsimp only
    by_cases q : i' < i
    · rw [if_pos q, if_pos (by omega)]
    · rw [if_neg q, if_neg (by omega)]
theorem oNe_nat (a b : Nat) : oNe (.int (a : Nat)) (.int (b : Nat)) = some (.bl (!decide (a = b))) := by
  rw [oNe_int]
  have : decide ((a : Int) = (b : Int)) = decide (a = b) := by rw [Bool.eq_iff_iff]; simp only [decide_eq_true_eq]; omega
  rw [this]
theorem Rb_1 : Rb 1 1 1 := ⟨by unfold B; decide, by unfold B; decide⟩
def aug (n : Nat) (A : Mat) (b : RowQ) : Mat := fun i => upd1 (A i) n (b i)
theorem aug_n (n : Nat) (A : Mat) (b : RowQ) (i : Nat) : aug n A b i n = b i := by unfold aug upd1; rw [if_pos rfl]
end
end Co
end
noncomputable section
namespace Co
open PySem PySem.Spec PyProof.Rows L2 Pi
theorem pl_rDn (r : Rat) (n : Nat) (h : 2 ≤ n) : pl (rD r) n = true := by
  obtain ⟨k, rfl⟩ : ∃ k, n = k + 2 := ⟨n - 2, by omega⟩
  rfl
theorem plL_rw (n : Nat) (a : RowQ) (k : Nat) (h : 2 ≤ k) : plL (rwL n a) k = true := by
  rw [plL_all, List.all_eq_true]
  intro d hd
  obtain ⟨j, _, rfl⟩ := List.mem_map.mp hd
  exact pl_rDn _ _ h
theorem pl_rw (n : Nat) (a : RowQ) (k : Nat) (h : 3 ≤ k) : pl (rwD n a) k = true := by
  obtain ⟨j, rfl⟩ : ∃ j, k = j + 1 := ⟨k - 1, by omega⟩
  unfold rwD
  rw [pl]
  exact plL_rw n a j (by omega)
theorem plL_mt (m n : Nat) (A : Mat) (k : Nat) (h : 3 ≤ k) : plL (mtL m n A) k = true := by
  rw [plL_all, List.all_eq_true]
  intro d hd
  obtain ⟨j, _, rfl⟩ := List.mem_map.mp hd
  exact pl_rw _ _ _ h
theorem pl_mt (m n : Nat) (A : Mat) (k : Nat) (h : 4 ≤ k) : pl (mtD m n A) k = true := by
  obtain ⟨j, rfl⟩ : ∃ j, k = j + 1 := ⟨k - 1, by omega⟩
  unfold mtD
  rw [pl]
  exact plL_mt m n A j (by omega)
section
variable {m0 m n c : Nat} {A0 A : Mat}
end
section
variable {R r : D} {m0 m n s t c k : Nat} {A0 A : Mat} {o4 o5 o6 o7 o8 o9 o10 o11 o12 : Option D}
end
end Co
end
noncomputable section
namespace Co
open PySem PySem.Spec PyProof.Rows L2 Pi
section
variable {M M' : Int} {c c' d n : Nat} {a b : Rat}
theorem Qn.mul (ha : Qn M c a) (hb : Qn M' c' b) : Qn (M * M') (c + c') (a * b) := by
  obtain ⟨x, rfl, h1⟩ := ha
  obtain ⟨y, rfl, h2⟩ := hb
  exact ⟨x * y, Rat.divInt_mul_divInt _ _, h1.mul h2⟩
theorem qn_of {t e f : Int} {p q : Nat} (ht : B p t) (hb : e * f = M) (hf : f ≠ 0) (bf : B q f) : Qn M (p + q) (Rat.divInt t e) := by
  refine ⟨t * f, ?_, ht.mul bf⟩
  rw [← hb, Rat.divInt_mul_right hf]
theorem S_qn {x y : RowQ} (hM : M ≠ 0) (h : ∀ j, j < n → Qn M c (x j * y j)) : ∀ k, k ≤ n → Qn M (c + k) (S x y k)
  | 0, _ => Qn.zero.mono (by omega)
  | k + 1, hk => (S_qn hM h k (by omega)).add hM (h k (by omega)) (by show c ≤ c + k; omega)
end
theorem map_rng {α β : Type} (f : α → β) (l : List α) (z : α) : l.map f = (List.range l.length).map fun j => f (l.getD j z) := by
  apply List.ext_getElem
  · simp
  · intro i h1 h2
    rw [List.length_map] at h1
    rw [List.getElem_map, List.getElem_map, List.getElem_range, List.getD_eq_getElem?_getD, List.getElem?_eq_getElem h1]
    rfl
theorem flat2 {α : Type} (a b : α) : ∀ (n k : Nat), k < n → (List.replicate n [a, b]).flatten[2 * k]? = some a ∧ (List.replicate n [a, b]).flatten[2 * k + 1]? = some b
  | 0, k, h => by omega
  | n + 1, 0, _ => by rw [List.replicate_succ, List.flatten_cons]; exact ⟨rfl, rfl⟩
  | n + 1, k + 1, h => by
    obtain ⟨h1, h2⟩ := flat2 a b n k (by omega)
    rw [List.replicate_succ, List.flatten_cons]
    have e : ∀ j, ([a, b] ++ (List.replicate n [a, b]).flatten)[2 * (k + 1) + j]? = (List.replicate n [a, b]).flatten[2 * k + j]? := fun j => by
      rw [show 2 * (k + 1) + j = (2 * k + j) + 2 by omega]
      rfl
    exact ⟨(e 0).trans h1, (e 1).trans h2⟩
theorem oMul_rep {l : List D} {n : Nat} (h : l.length * n ≤ 1000) (hn : n < 1000) : oMul (.lst l) (.int (n : Nat)) = some (.lst (List.replicate n l).flatten) := by
  show (if ((n : Nat) : Int).toNat < 1048576 ∧ l.length * ((n : Nat) : Int).toNat ≤ sizeLine ∧ -1048576 ≤ ((n : Nat) : Int) then some (D.lst (List.replicate ((n : Nat) : Int).toNat l).flatten) else none) = _
  rw [if_pos ⟨by omega, by rw [sizeLine_eq, Int.toNat_natCast]; omega, by omega⟩, Int.toNat_natCast]
def s_pnum : EvS := (sSeq (sIf (tV (eVar 2))
 (sSeq (sAs 3 (eCall f_drawn (aCons (eVar 0) (aCons (eB2 oMul (eLst (aCons (eB2 oAdd (eB2 oMul (eC (.int 2)) (eB2 oPow (eC (.int 10)) (eC (.int 9)))) (eC (.int 1))) (aCons (eC (.int 60)) aNil))) (eVar 1)) aNil))))
  (sRet (eLc [5] (iRn (aCons (eVar 1) aNil)) (set1 5) (fun _ => .ok true) (eCall f_plow (aCons (eB2 oSub (eB2 oIx (eVar 3) (eFl (eB2 oMul (eC (.int 2)) (eVar 5)))) (eB2 oPow (eC (.int 10)) (eC (.int 9)))) (aCons (eFl (eB2 oAdd (eC (.int 1)) (eB2 oIx (eVar 3) (eB2 oAdd (eFl (eB2 oMul (eC (.int 2)) (eVar 5))) (eC (.int 1)))))) aNil))))))
 sNil)
  (sSeq (sAs 3 (eCall f_drawn (aCons (eVar 0) (aCons (eB2 oMul (eLst (aCons (eC (.int 72)) aNil)) (eVar 1)) aNil))))
  (sRet (eLc [4] (iO 3) (set1 4) (fun _ => .ok true) (eCall f_plow (aCons (eB2 oMul (eB2 oSub (eB2 oMod (eVar 4) (eC (.int 9))) (eC (.int 3))) (eBi oInt (aCons (eB2 oLt (eVar 4) (eC (.int 54))) aNil))) (aCons (eB2 oAdd (eC (.int 1)) (eB2 oMod (eB2 oDiv (eVar 4) (eC (.int 9))) (eC (.int 4)))) aNil)))))))
def f_pnum : List D → Rs D := runF 3 s_pnum
theorem dvd12 {b : Nat} (h1 : 1 ≤ b) (h4 : b ≤ 4) : ∃ f : Int, (b : Int) * f = 12 ∧ f ≠ 0 ∧ B 4 f := by
  have : b = 1 ∨ b = 2 ∨ b = 3 ∨ b = 4 := by omega
  rcases this with rfl | rfl | rfl | rfl
  · exact ⟨12, rfl, by decide, by unfold B; decide⟩
  · exact ⟨6, rfl, by decide, by unfold B; decide⟩
  · exact ⟨4, rfl, by decide, by unfold B; decide⟩
  · exact ⟨3, rfl, by decide, by unfold B; decide⟩
def L60 : Int := 9690712164777231700912800
theorem dvd60 {b : Nat} (h1 : 1 ≤ b) (h4 : b ≤ 60) : ∃ f : Int, (b : Int) * f = L60 ∧ f ≠ 0 ∧ B 84 f := by
  have all : ∀ b : Fin 60, ((b.val + 1 : Nat) : Int) * (L60 / ((b.val + 1 : Nat) : Int)) = L60 ∧ L60 / ((b.val + 1 : Nat) : Int) ≠ 0 ∧ (L60 / ((b.val + 1 : Nat) : Int)).natAbs < 2 ^ 84 := by decide +kernel
  have := all ⟨b - 1, by omega⟩
  rw [show (⟨b - 1, by omega⟩ : Fin 60).val + 1 = b by show b - 1 + 1 = b; omega] at this
  exact ⟨L60 / (b : Int), this⟩
def dM (w : Bool) : Int := if w then L60 else 12
def dC (w : Bool) : Nat := if w then 115 else 7
def dD (w : Bool) : Nat := if w then 84 else 4
theorem dM_pos (w : Bool) : 0 < dM w := by cases w <;> decide
theorem dM_b (w : Bool) : B (dD w) (dM w) := by cases w <;> (unfold B; decide)
theorem pnum_eq (z : Int) {n : Nat} (hn : n ≤ 7) (w : Bool) : ∃ r : RowQ, f_pnum [.int z, .int (n : Nat), .bl w] = .ok (rwD n r) ∧ ∀ j, j < n → Qn (dM w) (dC w) (r j) := by
  cases w with
  | true =>
    let bs : List Int := (List.replicate n [2000000001, 60]).flatten
    obtain ⟨X, hX, eX⟩ := drawn_eq z (bs := bs) (by
      show (List.replicate n [(2000000001 : Int), 60]).flatten.length < 900
      rw [List.length_flatten, List.map_replicate, List.sum_replicate_nat]
      show n * 2 < 900
      omega) (by
      intro b hb
      obtain ⟨l, hl, hb⟩ := List.mem_flatten.mp hb
      rw [List.eq_of_mem_replicate hl] at hb
      have : b = 2000000001 ∨ b = 60 := by simpa using hb
      rcases this with e | e
      · rw [e]; exact ⟨by decide, B.mono (m := 40) (by unfold B; decide) (by decide)⟩
      · rw [e]; exact ⟨by decide, B.mono (m := 40) (by unfold B; decide) (by decide)⟩)
    have at2 : ∀ k, k < n → ∃ x y : Int, X[2 * k]? = some x ∧ X[2 * k + 1]? = some y ∧ 0 ≤ x ∧ x < 2000000001 ∧ 0 ≤ y ∧ y < 60 := fun k hk => by
      obtain ⟨h1, h2⟩ := flat2 (2000000001 : Int) 60 n k hk
      obtain ⟨x, e1, e2, e3⟩ := hX.at h1
      obtain ⟨y, e4, e5, e6⟩ := hX.at h2
      exact ⟨x, y, e1, e4, e2, e3, e5, e6⟩
    let r : RowQ := fun k => Rat.divInt (X.getD (2 * k) 0 - 1000000000) (1 + X.getD (2 * k + 1) 0)
    refine ⟨r, ?_, fun j hj => ?_⟩
    · have e3 : eCall f_drawn (aCons (eVar 0) (aCons (eB2 oMul (eLst (aCons (eB2 oAdd (eB2 oMul (eC (.int 2)) (eB2 oPow (eC (.int 10)) (eC (.int 9)))) (eC (.int 1))) (aCons (eC (.int 60)) aNil))) (eVar 1)) aNil)) [some (.int z), some (.int (n : Nat)), some (.bl true), none, none, none] = .ok (.lst (X.map .int)) := by
        refine eCall2_of rfl (eB2_of (x := .lst [.int 2000000001, .int 60]) rfl rfl (oMul_rep (by simp; omega) (by omega))) ?_
        rw [← eX]
        show _ = f_drawn [.int z, .lst ((List.replicate n [(2000000001 : Int), 60]).flatten.map .int)]
        rw [List.map_flatten, List.map_replicate]
        rfl
      have lc : evLc (set1 5) (fun _ => .ok true) (eCall f_plow (aCons (eB2 oSub (eB2 oIx (eVar 3) (eFl (eB2 oMul (eC (.int 2)) (eVar 5)))) (eB2 oPow (eC (.int 10)) (eC (.int 9)))) (aCons (eFl (eB2 oAdd (eC (.int 1)) (eB2 oIx (eVar 3) (eB2 oAdd (eFl (eB2 oMul (eC (.int 2)) (eVar 5))) (eC (.int 1)))))) aNil))) (wipE [5] [some (.int z), some (.int (n : Nat)), some (.bl true), some (.lst (X.map .int)), none, none]) ((List.range n).map fun k : Nat => D.int k) = .ok (rwL n r) :=
        evLc_map (q := fun k : Nat => D.int k) (r := fun k => rD (r k)) (List.range n) fun k hk => by
          obtain ⟨x, y, h1, h2, h3, h4, h5, h6⟩ := at2 k (List.mem_range.mp hk)
          have hk := List.mem_range.mp hk
          have i1 : oIx (.lst (X.map .int)) (.int ((2 : Int) * (k : Nat))) = some (.int x) := by
            rw [show ((2 : Int) * (k : Nat)) = ((2 * k : Nat) : Int) by omega]
            exact oIx_nat (by rw [List.getElem?_map, h1]; rfl)
          have i2 : oIx (.lst (X.map .int)) (.int ((2 : Int) * (k : Nat) + 1)) = some (.int y) := by
            rw [show ((2 : Int) * (k : Nat) + 1) = ((2 * k + 1 : Nat) : Int) by omega]
            exact oIx_nat (by rw [List.getElem?_map, h2]; rfl)
          have m2 : eFl (eB2 oMul (eC (.int 2)) (eVar 5)) [some (.int z), some (.int (n : Nat)), some (.bl true), some (.lst (X.map .int)), none, some (.int (k : Nat))] = .ok (.int ((2 : Int) * (k : Nat))) := eFl_of (eB2_of rfl rfl (oMul_int (mulOk_l (by decide)))) rfl
          refine ⟨_, rfl, eCall2_of (eB2_of (eB2_of rfl m2 i1) rfl (oSub_int x 1000000000)) (eFl_of (eB2_of rfl (eB2_of rfl (eB2_of m2 rfl (oAdd_int _ _)) i2) (oAdd_int 1 y)) rfl) ?_⟩
          have ev : r k = Rat.divInt (x - 1000000000) (1 + y) := by
            show Rat.divInt (X.getD (2 * k) 0 - 1000000000) (1 + X.getD (2 * k + 1) 0) = _
            rw [List.getD_eq_getElem?_getD, h1, List.getD_eq_getElem?_getD, h2]
            rfl
          rw [ev]
          exact plow_eq (by omega) (B.mono (m := 10) (by unfold B; omega) (by decide))
      show endR (s_pnum [some (.int z), some (.int (n : Nat)), some (.bl true), none, none, none]) = _
      unfold s_pnum
      rw [sSeq_ap, sIf_tt (tV_of (b := true) rfl) (show sSeq _ _ _ = .ok (.rt (rwD n r)) from by
        rw [seq_nx (sAs_of e3)]
        show sRet _ [some (.int z), some (.int (n : Nat)), some (.bl true), some (.lst (X.map .int)), none, none] = _
        rw [sRet_ap, eLc_ap (iRn1_of rfl (oRng_nat (by omega))) lc (by rw [rwL_len]; omega)]
        rfl)]
      rfl
    · obtain ⟨x, y, h1, h2, h3, h4, h5, h6⟩ := at2 j hj
      show Qn _ _ (Rat.divInt (X.getD (2 * j) 0 - 1000000000) (1 + X.getD (2 * j + 1) 0))
      rw [List.getD_eq_getElem?_getD, h1, List.getD_eq_getElem?_getD, h2]
      show Qn L60 115 (Rat.divInt (x - 1000000000) (1 + y))
      obtain ⟨f, f1, f2, f3⟩ := dvd60 (b := (1 + y).toNat) (by omega) (by omega)
      rw [show (((1 + y).toNat : Nat) : Int) = 1 + y by omega] at f1
      exact (qn_of (p := 30) (by unfold B; omega) f1 f2 f3).mono (by decide)
  | false =>
    obtain ⟨X, hX, eX⟩ := drawn_eq z (bs := List.replicate n 72) (by rw [List.length_replicate]; omega) (by
      intro b hb
      rw [List.eq_of_mem_replicate hb]
      exact ⟨by decide, B.mono (m := 40) (by unfold B; decide) (by decide)⟩)
    have hl : X.length = n := by rw [hX.len, List.length_replicate]
    let v : Int → Rat := fun x => Rat.divInt ((x.fmod 9 - 3) * (if x < 54 then 1 else 0)) (1 + (x.fdiv 9).fmod 4)
    have vq : ∀ x, Qn 12 7 (v x) := fun x => by
      obtain ⟨a, ea, ha⟩ := fmod_lt' (a := x) (b := 9) (by decide)
      obtain ⟨b, eb, hb⟩ := fmod_lt' (a := x.fdiv 9) (b := 4) (by decide)
      obtain ⟨f, f1, f2, f3⟩ := dvd12 (b := 1 + b) (by omega) (by omega)
      show Qn 12 7 (Rat.divInt ((x.fmod 9 - 3) * (if x < 54 then 1 else 0)) (1 + (x.fdiv 9).fmod 4))
      rw [eb, show (1 : Int) + (b : Nat) = ((1 + b : Nat) : Int) by omega]
      refine qn_of (p := 3) (q := 4) ?_ f1 f2 f3
      rw [ea]
      unfold B
      split <;> omega
    refine ⟨fun j => v (X.getD j 0), ?_, fun j hj => vq _⟩
    have e3 : eCall f_drawn (aCons (eVar 0) (aCons (eB2 oMul (eLst (aCons (eC (.int 72)) aNil)) (eVar 1)) aNil)) [some (.int z), some (.int (n : Nat)), some (.bl false), none, none, none] = .ok (.lst (X.map .int)) := by
      refine eCall2_of rfl (eB2_of (x := .lst [.int 72]) rfl rfl (oMul_rep (by simp; omega) (by omega))) ?_
      rw [← eX, List.map_replicate, flatten_one]
    have lc : evLc (set1 4) (fun _ => .ok true) (eCall f_plow (aCons (eB2 oMul (eB2 oSub (eB2 oMod (eVar 4) (eC (.int 9))) (eC (.int 3))) (eBi oInt (aCons (eB2 oLt (eVar 4) (eC (.int 54))) aNil))) (aCons (eB2 oAdd (eC (.int 1)) (eB2 oMod (eB2 oDiv (eVar 4) (eC (.int 9))) (eC (.int 4)))) aNil))) (wipE [4] [some (.int z), some (.int (n : Nat)), some (.bl false), some (.lst (X.map .int)), none, none]) (X.map .int) = .ok (X.map fun x => rD (v x)) :=
      evLc_map (q := D.int) (r := fun x => rD (v x)) X fun x hx => by
        obtain ⟨b, eb, hb⟩ := fmod_lt' (a := x.fdiv 9) (b := 4) (by decide)
        have dv : divOk x 9 = true := divOk_of (m := 10) (by decide) (by decide) (by decide) (by decide)
        refine ⟨_, rfl, eCall2_of (eB2_of (eB2_of (eB2_of rfl rfl (oMod_int (by decide))) rfl (oSub_int _ _)) (eBi1_of (eB2_of (z := .bl (decide (x < 54))) rfl rfl rfl) (oInt_bl _)) (oMul_int (mulOk_r (by split <;> decide)))) (eB2_of rfl (eB2_of (eB2_of rfl rfl (oDiv_int dv)) rfl (oMod_int (by decide))) (oAdd_int _ _)) ?_⟩
        show _ = Except.ok (rD (Rat.divInt ((x.fmod 9 - 3) * (if x < 54 then 1 else 0)) (1 + (x.fdiv 9).fmod 4)))
        simp only [decide_eq_true_eq]
        exact plow_eq (by rw [eb]; omega) (B.mono (m := 10) (by rw [eb]; unfold B; omega) (by decide))
    show endR (s_pnum [some (.int z), some (.int (n : Nat)), some (.bl false), none, none, none]) = _
    unfold s_pnum
    refine step_nx (sIf_ff (tV_of (b := false) rfl)) ?_
    refine step_nx (en' := [some (.int z), some (.int (n : Nat)), some (.bl false), some (.lst (X.map .int)), none, none]) (sAs_of e3) ?_
    rw [sRet_ap, eLc_ap (evI := iO 3) (ds := X.map .int) rfl lc (by rw [List.length_map, hl]; omega), map_rng (fun x => rD (v x)) X 0, hl]
    rfl
theorem mtL_snoc (m n : Nat) (A : Mat) (a : RowQ) : mtL m n A ++ [rwD n a] = mtL (m + 1) n (upd1 A m a) := by
  unfold mtL
  rw [List.range_succ, List.map_append, List.map_cons, List.map_nil, upd1, if_pos rfl]
  congr 1
  exact map_range_congr fun j hj => by unfold upd1; rw [if_neg (by omega)]
theorem ixN_last {m : Nat} (h : 0 < m) : ixN m (-1) = some (m - 1) := by
  unfold ixN
  rw [if_neg (by decide), if_pos (by omega)]
  congr 1
  omega
theorem oList_lst (l : List D) : oList [.lst l] = some (.lst l) := rfl
def dT (w : Bool) : Nat := if w then 2 else 5
end Co
end
noncomputable section
namespace Co
open PySem PySem.Spec PyProof.Rows L2 Pi
structure Tb (m w : Nat) (A0 A : Mat) (h : Nat → Nat) : Prop where
  lt : ∀ i, i < m → h i < w
  one : ∀ i, i < m → A i (h i) = 1
  nul : ∀ i, i < m → ∀ i', i' ≤ m → i' ≠ i → A i' (h i) = 0
  sol : ∀ y, (∀ i, i < m → S (A i) y (w + 1) = 0) ↔ (∀ i, i < m → S (A0 i) y (w + 1) = 0)
  cst : ∀ y, (∀ i, i < m → S (A0 i) y (w + 1) = 0) → S (A m) y (w + 1) = S (A0 m) y (w + 1)
def tnb (A : Mat) (p c : Nat) : Mat := elm (sca A p c) p c
def put (h : Nat → Nat) (v : Nat → Rat) : Nat → RowQ
  | 0 => fun _ => 0
  | i + 1 => upd1 (put h v i) (h i) (v i)
section
variable {m w p c k j : Nat} {A0 A A' : Mat} {h : Nat → Nat} {v : Nat → Rat} {y : RowQ}
theorem tnb_p (A : Mat) (p c : Nat) : tnb A p c p = fun j => A p j * (1 / A p c) := by unfold tnb; rw [elm_k, sca_k]
theorem tnb_i {i : Nat} (e : i ≠ p) : tnb A p c i = fun j => A i j - A p j * (1 / A p c) * A i c := by unfold tnb; rw [elm_i e, sca_i e, sca_k]
theorem tnb_col (ne : A p c ≠ 0) : tnb A p c p c = 1 := by rw [tnb_p]; exact div_self' ne
theorem tnb_col0 {i : Nat} (ne : A p c ≠ 0) (e : i ≠ p) : tnb A p c i c = 0 := by rw [tnb_i e]; show A i c - A p c * (1 / A p c) * A i c = 0; rw [div_self' ne]; grind
theorem tnb_old {i : Nat} (z : A p j = 0) (e : i ≠ p) : tnb A p c i j = A i j := by rw [tnb_i e]; show A i j - A p j * (1 / A p c) * A i c = A i j; rw [z]; grind
theorem tnb_old0 (z : A p j = 0) : tnb A p c p j = 0 := by rw [tnb_p]; show A p j * (1 / A p c) = 0; rw [z, Rat.zero_mul]
theorem tnb_sol (n : Nat) (hp : p < m) (ne : A p c ≠ 0) (y : RowQ) : (∀ i, i < m → S (tnb A p c i) y n = 0) ↔ (∀ i, i < m → S (A i) y n = 0) := by
  have sp : S (tnb A p c p) y n = S (A p) y n * (1 / A p c) := by rw [tnb_p]; exact S_scale _
  have si : ∀ i, i ≠ p → S (tnb A p c i) y n = S (A i) y n - S (A p) y n * (1 / A p c) * A i c := fun i e => by rw [tnb_i e, S_lin, S_scale]
  constructor
  · intro q
    have q0 := q p hp
    rw [sp] at q0
    have q1 : S (A p) y n = 0 := by
      have : S (A p) y n = S (A p) y n * (1 / A p c) * A p c := by
        rw [Rat.mul_assoc, Rat.mul_comm (1 / A p c), div_self' ne, Rat.mul_one]
      rw [this, q0, Rat.zero_mul]
    intro i hi
    by_cases e : i = p
    · rw [e]; exact q1
    · have := q i hi
      rw [si i e, q1] at this
      grind
  · intro q i hi
    by_cases e : i = p
    · rw [e, sp, q p hp, Rat.zero_mul]
    · rw [si i e, q p hp, q i hi]; grind
theorem tnb_cst (n : Nat) {i : Nat} (e : i ≠ p) {y : RowQ} (z : S (A p) y n = 0) : S (tnb A p c i) y n = S (A i) y n := by
  rw [tnb_i e, S_lin, S_scale, z]; grind
theorem Tb.turn (t : Tb m w A0 A h) (hp : p < m) (hc : c < w) (ne : A p c ≠ 0) : Tb m w A0 (tnb A p c) (upd1 h p c) := by
  have uk : upd1 h p c p = c := by unfold upd1; rw [if_pos rfl]
  have ui : ∀ i, i ≠ p → upd1 h p c i = h i := fun i e => by unfold upd1; rw [if_neg e]
  refine ⟨fun i hi => ?_, fun i hi => ?_, fun i hi i' hi' ne' => ?_, fun y => (tnb_sol (w + 1) hp ne y).trans (t.sol y), fun y q => ?_⟩
  · by_cases e : i = p
    · rw [e, uk]; exact hc
    · rw [ui i e]; exact t.lt i hi
  · by_cases e : i = p
    · rw [e, uk]; exact tnb_col ne
    · rw [ui i e, tnb_old (t.nul i hi p (by omega) (fun q => e q.symm)) e]; exact t.one i hi
  · by_cases e : i = p
    · rw [e, uk]; exact tnb_col0 ne (by omega)
    · rw [ui i e]
      have z := t.nul i hi p (by omega) (fun q => e q.symm)
      by_cases e2 : i' = p
      · rw [e2]; exact tnb_old0 z
      · rw [tnb_old z e2]; exact t.nul i hi i' hi' ne'
  · rw [tnb_cst (w + 1) (by omega) ((t.sol y).mpr q p hp)]
    exact t.cst y q
theorem Tb.inj (t : Tb m w A0 A h) {i i' : Nat} (hi : i < m) (hi' : i' < m) (e : h i = h i') : i = i' := by
  by_cases q : i = i'
  · exact q
  · have h1 := t.one i hi
    rw [e, t.nul i' hi' i (by omega) q] at h1
    exact absurd h1 (by decide)
theorem put_at (inj : ∀ i i', i < m → i' < m → h i = h i' → i = i') : ∀ {k : Nat}, k ≤ m → ∀ i, i < k → put h v k (h i) = v i
  | 0, _, i, hi => by omega
  | k + 1, hk, i, hi => by
    show upd1 (put h v k) (h k) (v k) (h i) = _
    unfold upd1
    by_cases e : i = k
    · rw [e, if_pos rfl]
    · rw [if_neg (fun q => e (inj i k (by omega) (by omega) q))]
      exact put_at inj (by omega) i (by omega)
theorem put_no : ∀ {k j : Nat}, (∀ i, i < k → h i ≠ j) → put h v k j = 0
  | 0, _, _ => rfl
  | k + 1, j, q => by
    show upd1 (put h v k) (h k) (v k) j = _
    unfold upd1
    rw [if_neg (fun e => q k (by omega) e.symm)]
    exact put_no fun i hi => q i (by omega)
theorem put_S1 {a : RowQ} (inj : ∀ i i', i < m → i' < m → h i = h i' → i = i') {n i : Nat} (hk : k ≤ m) (hi : i < k) (hn : h i < n) (e1 : a (h i) = 1) (e0 : ∀ i', i' < k → i' ≠ i → a (h i') = 0) : S a (put h v k) n = v i := by
  rw [S_one hn (fun j hj ne => ?_), e1, put_at inj hk i hi, Rat.one_mul]
  by_cases q : ∃ i', i' < k ∧ h i' = j
  · obtain ⟨i', h1, h2⟩ := q
    rw [← h2, e0 i' h1 (fun e => ne (by rw [← h2, e])), Rat.zero_mul]
  · rw [put_no (fun i' h1 h2 => q ⟨i', h1, h2⟩), Rat.mul_zero]
theorem put_S0 {a : RowQ} {n : Nat} (e0 : ∀ i', i' < k → a (h i') = 0) : S a (put h v k) n = 0 :=
  S_zero fun j hj => by
    by_cases q : ∃ i', i' < k ∧ h i' = j
    · obtain ⟨i', h1, h2⟩ := q
      rw [← h2, e0 i' h1, Rat.zero_mul]
    · rw [put_no (fun i' h1 h2 => q ⟨i', h1, h2⟩), Rat.mul_zero]
theorem Tb.uniq (t : Tb m w A0 A h) (t' : Tb m w A0 A' h) : ∀ i, i ≤ m → ∀ j, j < w + 1 → A i j = A' i j := by
  intro i hi j hj
  by_cases q : ∃ i', i' < m ∧ h i' = j
  · obtain ⟨i', h1, h2⟩ := q
    rw [← h2]
    by_cases e : i = i'
    · rw [e, t.one i' h1, t'.one i' h1]
    · rw [t.nul i' h1 i hi e, t'.nul i' h1 i hi e]
  · have inj := fun i i' hi hi' e => t.inj (i := i) (i' := i') hi hi' e
    have nj : put h (fun i => -A i j) m j = 0 := put_no fun i' h1 h2 => q ⟨i', h1, h2⟩
    have line : ∀ (B : Mat), Tb m w A0 B h → ∀ i, i < m → S (B i) (upd1 (put h (fun i => -A i j) m) j 1) (w + 1) = B i j - A i j := fun B tb i hi => by
      rw [S_upd hj, nj, put_S1 inj (Nat.le_refl _) hi (by have := tb.lt i hi; omega) (tb.one i hi) (fun i' h1 h2 => tb.nul i' h1 i (by omega) (fun e => h2 e.symm))]
      grind
    have cost : ∀ (B : Mat), Tb m w A0 B h → S (B m) (upd1 (put h (fun i => -A i j) m) j 1) (w + 1) = B m j := fun B tb => by
      rw [S_upd hj, nj, put_S0 (fun i' h1 => tb.nul i' h1 m (Nat.le_refl _) (by omega))]
      grind
    have z : ∀ i, i < m → S (A0 i) (upd1 (put h (fun i => -A i j) m) j 1) (w + 1) = 0 := (t.sol _).mp fun i hi => by rw [line A t i hi]; grind
    by_cases e : i = m
    · rw [e, ← cost A t, ← cost A' t', t.cst _ z, t'.cst _ z]
    · have := (t'.sol _).mpr z i (by omega)
      rw [line A' t' i (by omega)] at this
      grind
end
end Co
end
noncomputable section
namespace Co
open PySem PySem.Spec PyProof.Rows L2 Pi
structure Bst (n m w : Nat) (A : Mat) (h : Nat → Nat) (c p : Nat) : Prop where
  cn : c < n
  neg : A m c < 0
  fst : ∀ j, j < c → 0 ≤ A m j
  pm : p < m
  pos : 0 < A p c
  low : ∀ k, k < m → 0 < A k c → A p w / A p c < A k w / A k c ∨ (A p w / A p c = A k w / A k c ∧ h p ≤ h k)
structure Run (n m w : Nat) (A : Nat → Mat) (h : Nat → Nat → Nat) (c p : Nat → Nat) (K : Nat) : Prop where
  st : ∀ k, k < K → Bst n m w (A k) (h k) (c k) (p k)
  nA : ∀ k, k < K → A (k + 1) = tnb (A k) (p k) (c k)
  nh : ∀ k, k < K → h (k + 1) = upd1 (h k) (p k) (c k)
theorem pig : ∀ (N : Nat) (f : Nat → Nat), (∀ k, k ≤ N → f k < N) → ∃ a b, a < b ∧ b ≤ N ∧ f a = f b
  | 0, f, h => by have := h 0 (Nat.le_refl _); omega
  | N + 1, f, h => by
    by_cases q : ∃ k, k ≤ N ∧ f k = f (N + 1)
    · obtain ⟨k, h1, h2⟩ := q
      exact ⟨k, N + 1, by omega, Nat.le_refl _, h2⟩
    · have ne : ∀ k, k ≤ N → f k ≠ f (N + 1) := fun k hk e => q ⟨k, hk, e⟩
      have hv := h (N + 1) (Nat.le_refl _)
      obtain ⟨a, b, h1, h2, h3⟩ := pig N (fun k => if f k > f (N + 1) then f k - 1 else f k) (fun k hk => by
        have := h k (by omega)
        have := ne k hk
        split <;> omega)
      refine ⟨a, b, h1, by omega, ?_⟩
      have na := ne a (by omega)
      have nb := ne b h2
      split at h3 <;> split at h3 <;> omega
def cdh (w : Nat) (h : Nat → Nat) : Nat → Nat
  | 0 => 0
  | i + 1 => cdh w h i * w + h i
theorem cdh_lt {w : Nat} {h : Nat → Nat} : ∀ {m : Nat}, (∀ i, i < m → h i < w) → cdh w h m < w ^ m
  | 0, _ => by simp [cdh]
  | m + 1, q => by
    have i1 := cdh_lt (m := m) fun i hi => q i (by omega)
    have i2 := q m (by omega)
    show cdh w h m * w + h m < w ^ (m + 1)
    rw [Nat.pow_succ]
    have := Nat.mul_le_mul_right w (show cdh w h m + 1 ≤ w ^ m from i1)
    rw [Nat.add_mul] at this
    omega
theorem cdh_inj {w : Nat} {h h' : Nat → Nat} : ∀ {m : Nat}, (∀ i, i < m → h i < w) → (∀ i, i < m → h' i < w) → cdh w h m = cdh w h' m → ∀ i, i < m → h i = h' i
  | 0, _, _, _, i, hi => by omega
  | m + 1, q, q', e, i, hi => by
    have e : cdh w h m * w + h m = cdh w h' m * w + h' m := e
    have a1 := q m (by omega)
    have a2 := q' m (by omega)
    have hw : 0 < w := by omega
    have e1 : h m = h' m := by
      have := congrArg (· % w) e
      simp only [Nat.mul_add_mod_self_right] at this
      rwa [Nat.mod_eq_of_lt a1, Nat.mod_eq_of_lt a2] at this
    have e2 : cdh w h m = cdh w h' m := by
      rw [e1] at e
      exact Nat.eq_of_mul_eq_mul_right hw (by omega)
    by_cases r : i = m
    · rw [r]; exact e1
    · exact cdh_inj (fun i hi => q i (by omega)) (fun i hi => q' i (by omega)) e2 i (by omega)
theorem change {Q : Nat → Prop} {a : Nat} : ∀ {b : Nat}, a ≤ b → Q a → ¬ Q b → ∃ k, a ≤ k ∧ k < b ∧ Q k ∧ ¬ Q (k + 1)
  | 0, h, qa, nb => by
    have : a = 0 := by omega
    subst this
    exact absurd qa nb
  | b + 1, h, qa, nb => by
    by_cases e : a = b + 1
    · subst e; exact absurd qa nb
    · by_cases qb : Q b
      · exact ⟨b, by omega, by omega, qb, nb⟩
      · obtain ⟨k, h1, h2, h3⟩ := change (b := b) (by omega) qa qb
        exact ⟨k, h1, by omega, h3⟩
theorem top {c : Nat → Nat} {p : Nat} : ∀ {q : Nat}, p < q → ∃ k, p ≤ k ∧ k < q ∧ ∀ k', p ≤ k' → k' < q → c k' ≤ c k
  | 0, h => by omega
  | q + 1, h => by
    by_cases e : p = q
    · subst e
      exact ⟨p, Nat.le_refl _, by omega, fun k' h1 h2 => by rw [show k' = p by omega]; exact Nat.le_refl _⟩
    · obtain ⟨k, h1, h2, h3⟩ := top (c := c) (p := p) (q := q) (by omega)
      by_cases l : c q ≤ c k
      · exact ⟨k, h1, by omega, fun k' g1 g2 => by
          by_cases e : k' = q
          · rw [e]; exact l
          · exact h3 k' g1 (by omega)⟩
      · exact ⟨q, by omega, by omega, fun k' g1 g2 => by
          by_cases e : k' = q
          · rw [e]; exact Nat.le_refl _
          · have := h3 k' g1 (by omega); omega⟩
theorem S_nn {a y : RowQ} : ∀ {n : Nat}, (∀ j, j < n → 0 ≤ a j * y j) → 0 ≤ S a y n
  | 0, _ => Rat.le_refl
  | n + 1, h => by
    have h1 := S_nn (n := n) fun j hj => h j (by omega)
    have h2 := h n (by omega)
    show 0 ≤ S a y n + a n * y n
    grind
theorem Tb.hcongr {m w : Nat} {A0 A : Mat} {h h' : Nat → Nat} (t : Tb m w A0 A h) (e : ∀ i, i < m → h i = h' i) : Tb m w A0 A h' :=
  ⟨fun i hi => e i hi ▸ t.lt i hi, fun i hi => e i hi ▸ t.one i hi, fun i hi => e i hi ▸ t.nul i hi, t.sol, t.cst⟩
section
variable {n m w c p : Nat} {A0 A : Mat} {h : Nat → Nat}
theorem rat_div_nn {a b : Rat} (ha : 0 ≤ a) (hb : 0 < b) : 0 ≤ a / b := by
  rw [Rat.div_def]
  exact Rat.mul_nonneg ha (Rat.le_of_lt (Rat.inv_pos.mpr hb))
theorem Bst.b_p (b : Bst n m w A h c p) : tnb A p c p w = A p w / A p c := by rw [tnb_p]; show A p w * (1 / A p c) = _; rw [Rat.div_def, Rat.div_def, Rat.one_mul]
theorem Bst.b_i (b : Bst n m w A h c p) {i : Nat} (e : i ≠ p) : tnb A p c i w = A i w - A p w / A p c * A i c := by
  rw [tnb_i e]; show A i w - A p w * (1 / A p c) * A i c = _; rw [Rat.div_def, Rat.div_def, Rat.one_mul]
theorem Bst.feas (b : Bst n m w A h c p) (f : ∀ i, i < m → 0 ≤ A i w) : ∀ i, i < m → 0 ≤ tnb A p c i w := by
  have th : 0 ≤ A p w / A p c := rat_div_nn (f p b.pm) b.pos
  intro i hi
  by_cases e : i = p
  · rw [e, b.b_p]; exact th
  · rw [b.b_i e]
    by_cases q : 0 < A i c
    · have le : A p w / A p c ≤ A i w / A i c := by
        rcases b.low i hi q with h | ⟨h, _⟩
        · exact Rat.le_of_lt h
        · rw [h]; exact Rat.le_refl
      have := Rat.mul_le_mul_of_nonneg_right le (Rat.le_of_lt q)
      rw [Rat.div_mul_cancel (by grind)] at this
      grind
    · have := f i hi
      have : A p w / A p c * (-A i c) ≥ 0 := Rat.mul_nonneg th (by grind)
      grind
theorem Bst.obj (b : Bst n m w A h c p) (f : ∀ i, i < m → 0 ≤ A i w) : A m w ≤ tnb A p c m w ∧ (tnb A p c m w = A m w → A p w = 0) := by
  have th : 0 ≤ A p w / A p c := rat_div_nn (f p b.pm) b.pos
  rw [b.b_i (show m ≠ p by have := b.pm; omega)]
  have h1 : A p w / A p c * (-A m c) ≥ 0 := Rat.mul_nonneg th (by have := b.neg; grind)
  refine ⟨by grind, fun e => ?_⟩
  have e1 : A p w / A p c * A m c = 0 := by grind
  have e2 : A p w / A p c = 0 := by
    rcases Rat.mul_eq_zero.mp e1 with h | h
    · exact h
    · have := b.neg; rw [h] at this; exact absurd this (by decide)
  have := Rat.div_mul_cancel (a := A p w) (b := A p c) (by have := b.pos; grind)
  rw [e2, Rat.zero_mul] at this
  exact this.symm
theorem Run.tb {A : Nat → Mat} {h : Nat → Nat → Nat} {c p : Nat → Nat} {K : Nat} (r : Run n m w A h c p K) (nw : n ≤ w) (t : Tb m w A0 (A 0) (h 0)) : ∀ k, k ≤ K → Tb m w A0 (A k) (h k)
  | 0, _ => t
  | k + 1, hk => by
    have b := r.st k (by omega)
    have cn := b.cn
    rw [r.nA k (by omega), r.nh k (by omega)]
    exact (r.tb nw t k (by omega)).turn b.pm (by omega) (by have := b.pos; grind)
theorem Run.feas {A : Nat → Mat} {h : Nat → Nat → Nat} {c p : Nat → Nat} {K : Nat} (r : Run n m w A h c p K) (f : ∀ i, i < m → 0 ≤ A 0 i w) : ∀ k, k ≤ K → ∀ i, i < m → 0 ≤ A k i w
  | 0, _ => f
  | k + 1, hk => by
    rw [r.nA k (by omega)]
    exact (r.st k (by omega)).feas (r.feas f k (by omega))
theorem Run.once {A : Nat → Mat} {h : Nat → Nat → Nat} {c p : Nat → Nat} {K : Nat} (r : Run n m w A h c p K) (nw : n ≤ w) (t : Tb m w A0 (A 0) (h 0)) (f : ∀ i, i < m → 0 ≤ A 0 i w) {a b : Nat} (ab : a < b) (bK : b ≤ K) : ¬ ∀ i, i < m → h a i = h b i := by
  intro same
  have tb := r.tb nw t
  have fe := r.feas f
  -- the worth stays, so all that is moved is nought
  have ends : A a m w = A b m w := ((tb a (by omega)).hcongr same).uniq (tb b bK) m (Nat.le_refl _) w (by omega)
  have mono : ∀ d, a + d ≤ b → A a m w ≤ A (a + d) m w := by
    intro d
    induction d with
    | zero => exact fun _ => Rat.le_refl
    | succ d ih =>
      intro hd
      have := ((r.st (a + d) (by omega)).obj (fe (a + d) (by omega))).1
      rw [← r.nA (a + d) (by omega)] at this
      exact Rat.le_trans (ih (by omega)) this
  have mono2 : ∀ d, a + d ≤ b → A (a + d) m w ≤ A b m w := by
    intro d hd
    obtain ⟨e, rfl⟩ : ∃ e, b = a + d + e := ⟨b - (a + d), by omega⟩
    clear same ends
    have : ∀ e, a + d + e ≤ K → A (a + d) m w ≤ A (a + d + e) m w := by
      intro e
      induction e with
      | zero => exact fun _ => Rat.le_refl
      | succ e ih =>
        intro he
        have := ((r.st (a + d + e) (by omega)).obj (fe (a + d + e) (by omega))).1
        rw [← r.nA (a + d + e) (by omega)] at this
        exact Rat.le_trans (ih (by omega)) this
    exact this e bK
  have eq : ∀ k, a ≤ k → k ≤ b → A k m w = A a m w := fun k h1 h2 => by
    have q1 := mono (k - a) (by omega)
    have q2 := mono2 (k - a) (by omega)
    rw [show a + (k - a) = k by omega] at q1 q2
    rw [← ends] at q2
    exact Rat.le_antisymm q2 q1
  have bz : ∀ k, a ≤ k → k < b → A k (p k) w = 0 := fun k h1 h2 => by
    refine ((r.st k (by omega)).obj (fe k (by omega))).2 ?_
    rw [← r.nA k (by omega), eq (k + 1) (by omega) (by omega), eq k h1 (by omega)]
  have bs : ∀ d, a + d ≤ b → ∀ i, i < m → A (a + d) i w = A a i w := by
    intro d
    induction d with
    | zero => exact fun _ i hi => rfl
    | succ d ih =>
      intro hd i hi
      have z := bz (a + d) (by omega) (by omega)
      rw [← ih (by omega) i hi]
      show A (a + d + 1) i w = _
      rw [r.nA (a + d) (by omega)]
      by_cases e : i = p (a + d)
      · rw [e, tnb_old0 z, z]
      · exact tnb_old z e
  have bc : ∀ k, a ≤ k → k ≤ b → ∀ i, i < m → A k i w = A a i w := fun k h1 h2 i hi => by
    have := bs (k - a) (by omega) i hi
    rwa [show a + (k - a) = k by omega] at this
  have step : ∀ k, a ≤ k → k < b → ∀ i, h k i ≠ h (k + 1) i → i = p k ∧ h (k + 1) i = c k := fun k h1 h2 i ne => by
    rw [r.nh k (by omega)] at ne ⊢
    unfold upd1 at ne ⊢
    by_cases e : i = p k
    · rw [if_pos e]; exact ⟨e, rfl⟩
    · rw [if_neg e] at ne; exact absurd rfl ne
  -- the greatest column that comes in
  obtain ⟨k2, a2, b2, tp⟩ := top (c := c) ab
  have s2 := r.st k2 (by omega)
  have t2 := tb k2 (by omega)
  have nohead : ∀ i, i < m → h k2 i ≠ c k2 := fun i hi e => by
    have := t2.nul i hi m (Nat.le_refl _) (by omega)
    rw [e] at this
    have ng := s2.neg
    rw [this] at ng
    exact absurd ng (by decide)
  have hp2 : h (k2 + 1) (p k2) = c k2 := by rw [r.nh k2 (by omega)]; unfold upd1; rw [if_pos rfl]
  have pm2 := s2.pm
  obtain ⟨k1, a1, b1, hk1, pk1⟩ : ∃ k1, a ≤ k1 ∧ k1 < b ∧ h k1 (p k2) = c k2 ∧ p k1 = p k2 := by
    by_cases q : h a (p k2) = c k2
    · obtain ⟨k, g1, g2, g3, g4⟩ := change (Q := fun k => h k (p k2) = c k2) (a := a) (b := k2) a2 q (nohead _ pm2)
      exact ⟨k, g1, by omega, g3, (step k g1 (by omega) _ (fun e => g4 (e ▸ g3))).1.symm⟩
    · rw [same _ pm2] at q
      obtain ⟨k, g1, g2, g3, g4⟩ := change (Q := fun k => h k (p k2) = c k2) (a := k2 + 1) (b := b) (by omega) hp2 q
      exact ⟨k, by omega, g2, g3, (step k (by omega) g2 _ (fun e => g4 (e ▸ g3))).1.symm⟩
  have s1 := r.st k1 (by omega)
  have t1 := tb k1 (by omega)
  have le := tp k1 a1 b1
  have ne : c k1 ≠ c k2 := fun e => by
    have := t1.nul (p k2) pm2 m (Nat.le_refl _) (by omega)
    rw [hk1, ← e] at this
    have ng := s1.neg
    rw [this] at ng
    exact absurd ng (by decide)
  have lt : c k1 < c k2 := by omega
  have cn1 := s1.cn
  have cn2 := s2.cn
  -- whoever heads a line in the one and not in the other came in, at no gain
  have came : ∀ i, i < m → h k2 i ≠ h k1 i → ∃ k, a ≤ k ∧ k < b ∧ p k = i ∧ c k = h k1 i := fun i hi nq => by
    by_cases q : h a i = h k1 i
    · have q' : h b i = h k1 i := by rw [← same i hi]; exact q
      obtain ⟨k, g1, g2, g3, g4⟩ := change (Q := fun k => h k i ≠ h k1 i) (a := k2) (b := b) (by omega) nq (fun h => h q')
      have g4 : h (k + 1) i = h k1 i := Classical.byContradiction g4
      have := step k (by omega) g2 i (fun e => g3 (e.trans g4))
      exact ⟨k, by omega, g2, this.1.symm, by rw [← this.2, g4]⟩
    · obtain ⟨k, g1, g2, g3, g4⟩ := change (Q := fun k => h k i ≠ h k1 i) (a := a) (b := k1) a1 q (fun h => h rfl)
      have g4 : h (k + 1) i = h k1 i := Classical.byContradiction g4
      have := step k g1 (by omega) i (fun e => g3 (e.trans g4))
      exact ⟨k, g1, by omega, this.1.symm, by rw [← this.2, g4]⟩
  have inj := fun i i' hi hi' e => t1.inj (i := i) (i' := i') hi hi' e
  -- the way by the column of the one, priced by the other
  have hd : put (h k1) (fun i => -A k1 i (c k1)) m (c k1) = 0 := put_no fun i hi e => by
    have := t1.nul i hi m (Nat.le_refl _) (by omega)
    rw [e] at this
    have ng := s1.neg
    rw [this] at ng
    exact absurd ng (by decide)
  let y : RowQ := upd1 (put (h k1) (fun i => -A k1 i (c k1)) m) (c k1) 1
  have van : ∀ i, i < m → S (A0 i) y (w + 1) = 0 := (t1.sol y).mp fun i hi => by
    rw [S_upd (by omega), hd, put_S1 inj (Nat.le_refl _) hi (by have := t1.lt i hi; omega) (t1.one i hi) (fun i' h1 h2 => t1.nul i' h1 i (by omega) (fun e => h2 e.symm))]
    grind
  have cst1 : S (A k1 m) y (w + 1) = A k1 m (c k1) := by
    rw [S_upd (by omega), hd, put_S0 (fun i' h1 => t1.nul i' h1 m (Nat.le_refl _) (by omega))]
    grind
  have low : S (A k2 m) y (w + 1) < 0 := by rw [t2.cst y van, ← t1.cst y van, cst1]; exact s1.neg
  have high : 0 ≤ S (A k2 m) y (w + 1) := S_nn fun j hj => by
    by_cases e : j = c k1
    · have : y j = 1 := by show upd1 _ _ _ j = 1; unfold upd1; rw [if_pos e]
      rw [this, Rat.mul_one, e]
      exact s2.fst _ lt
    · have yj : y j = put (h k1) (fun i => -A k1 i (c k1)) m j := by show upd1 _ _ _ j = _; unfold upd1; rw [if_neg e]
      by_cases q : ∃ i, i < m ∧ h k1 i = j
      · obtain ⟨i, hi, rfl⟩ := q
        rw [yj, put_at inj (Nat.le_refl _) i hi]
        by_cases e2 : h k2 i = h k1 i
        · have := t2.nul i hi m (Nat.le_refl _) (by omega)
          rw [e2] at this
          rw [this, Rat.zero_mul]
          exact Rat.le_refl
        · obtain ⟨k, g1, g2, g3, g4⟩ := came i hi e2
          have lej := tp k g1 g2
          rw [g4] at lej
          have bi : A k1 i w = 0 := by
            have := bz k g1 g2
            rw [g3, bc k g1 (by omega) i hi] at this
            rw [bc k1 a1 (by omega) i hi, this]
          by_cases e3 : h k1 i = c k2
          · have : i = p k2 := inj i (p k2) hi pm2 (e3.trans hk1.symm)
            rw [e3, this]
            have p1 := s1.pos
            rw [pk1] at p1
            have n2 := s2.neg
            have := Rat.mul_nonneg (a := -A k2 m (c k2)) (b := A k1 (p k2) (c k1)) (by grind) (by grind)
            grind
          · refine Rat.mul_nonneg (s2.fst _ (by omega)) ?_
            apply Classical.byContradiction
            intro no
            have ps : 0 < A k1 i (c k1) := by grind
            have z := bz k1 a1 b1
            have := s1.low i hi ps
            rw [z, bi, Rat.div_def, Rat.zero_mul, Rat.div_def, Rat.zero_mul] at this
            rcases this with h | ⟨_, h⟩
            · exact absurd h (by decide)
            · rw [pk1, hk1] at h
              omega
      · rw [yj, put_no (fun i h1 h2 => q ⟨i, h1, h2⟩), Rat.mul_zero]
        exact Rat.le_refl
  grind
theorem Run.ends {A : Nat → Mat} {h : Nat → Nat → Nat} {c p : Nat → Nat} (nw : n ≤ w) (t : Tb m w A0 (A 0) (h 0)) (f : ∀ i, i < m → 0 ≤ A 0 i w) : ¬ Run n m w A h c p (w ^ m) := by
  intro r
  have tb := r.tb nw t
  obtain ⟨a, b, h1, h2, h3⟩ := pig (w ^ m) (fun k => cdh w (h k) m) (fun k hk => cdh_lt (tb k hk).lt)
  exact r.once nw t f h1 h2 (cdh_inj (tb a (by omega)).lt (tb b h2).lt h3)
end
end Co
end
noncomputable section
namespace Co
open PySem PySem.Spec PyProof.Rows L2 Pi
structure Lst (n m : Nat) (R : Mat) (b c x u : RowQ) (v : Rat) : Prop where
  nn : ∀ j, j < n → 0 ≤ x j
  sol : ∀ i, i < m → S (R i) x n = b i
  val : S c x n = v
  low : ∀ j, j < n → S (fun i => R i j) u m ≤ c j
  dual : S b u m = v
structure Non (n m : Nat) (R : Mat) (b u : RowQ) : Prop where
  low : ∀ j, j < n → S (fun i => R i j) u m ≤ 0
  pos : 0 < S b u m
structure Edl (n m : Nat) (R : Mat) (b c x y : RowQ) : Prop where
  nn : ∀ j, j < n → 0 ≤ x j
  sol : ∀ i, i < m → S (R i) x n = b i
  nn' : ∀ j, j < n → 0 ≤ y j
  sol' : ∀ i, i < m → S (R i) y n = 0
  neg : S c y n < 0
section
variable {a b y z : RowQ} {n m k : Nat} {q : Rat}
theorem S_add : ∀ n : Nat, S (fun j => a j + b j) y n = S a y n + S b y n
  | 0 => by show (0 : Rat) = 0 + 0; grind
  | n + 1 => by show S _ y n + (a n + b n) * y n = _; rw [S_add n]; show _ = S a y n + a n * y n + (S b y n + b n * y n); grind
theorem S_sub : ∀ n : Nat, S (fun j => a j - b j) y n = S a y n - S b y n
  | 0 => by show (0 : Rat) = 0 - 0; grind
  | n + 1 => by show S _ y n + (a n - b n) * y n = _; rw [S_sub n]; show _ = S a y n + a n * y n - (S b y n + b n * y n); grind
theorem S_neg : ∀ n : Nat, S a (fun j => -y j) n = -S a y n
  | 0 => by show (0 : Rat) = -0; grind
  | n + 1 => by show S a _ n + a n * -y n = -(S a y n + a n * y n); rw [S_neg n]; grind
theorem S_split : ∀ m : Nat, S a y (n + m) = S a y n + S (fun i => a (n + i)) (fun i => y (n + i)) m
  | 0 => by show S a y n = S a y n + 0; grind
  | m + 1 => by
    show S a y (n + m) + a (n + m) * y (n + m) = S a y n + (S (fun i => a (n + i)) (fun i => y (n + i)) m + a (n + m) * y (n + m))
    rw [S_split m]; grind
theorem S_swap {A : Mat} {u x : RowQ} (n : Nat) : ∀ m : Nat, S (fun i => S (A i) x n) u m = S (fun j => S (fun i => A i j) u m) x n
  | 0 => by rw [show (fun j => S (fun i => A i j) u 0) = fun _ => (0 : Rat) from rfl, S_zero fun j _ => Rat.zero_mul _]; rfl
  | m + 1 => by
    show S (fun i => S (A i) x n) u m + S (A m) x n * u m = S (fun j => S (fun i => A i j) u m + A m j * u m) x n
    rw [S_swap n m, S_add, S_scale]
theorem S_mono {x : RowQ} : ∀ {n : Nat}, (∀ j, j < n → 0 ≤ x j) → (∀ j, j < n → a j ≤ b j) → S a x n ≤ S b x n
  | 0, _, _ => Rat.le_refl
  | n + 1, h, q => by
    have i1 := S_mono (n := n) (fun j hj => h j (by omega)) (fun j hj => q j (by omega))
    have i2 := Rat.mul_le_mul_of_nonneg_right (q n (by omega)) (h n (by omega))
    show S a x n + a n * x n ≤ S b x n + b n * x n
    grind
theorem put_sum {h : Nat → Nat} {v : Nat → Rat} (inj : ∀ i i', i < m → i' < m → h i = h i' → i = i') {N : Nat} (hN : ∀ i, i < m → h i < N) : ∀ {k : Nat}, k ≤ m → S a (put h v k) N = S (fun i => a (h i)) v k
  | 0, _ => S_zero fun j _ => Rat.mul_zero _
  | k + 1, hk => by
    show S a (upd1 (put h v k) (h k) (v k)) N = S (fun i => a (h i)) v k + a (h k) * v k
    rw [S_upd (hN k (by omega)), put_sum inj hN (k := k) (by omega), put_no fun i hi e => by have := inj i k (by omega) (by omega) e; omega]
    grind
theorem put_nn {h : Nat → Nat} {v : Nat → Rat} : ∀ {k : Nat}, (∀ i, i < k → 0 ≤ v i) → ∀ j, 0 ≤ put h v k j
  | 0, _, j => Rat.le_refl
  | k + 1, q, j => by
    show 0 ≤ upd1 (put h v k) (h k) (v k) j
    unfold upd1
    split
    · exact q k (by omega)
    · exact put_nn (fun i hi => q i (by omega)) j
theorem S_nn0 : ∀ {n : Nat}, (∀ j, j < n → 0 ≤ y j) → S (fun _ => 1) y n = 0 → ∀ j, j < n → y j = 0
  | 0, _, _, j, hj => by omega
  | n + 1, h, e, j, hj => by
    have e : S (fun _ => 1) y n + 1 * y n = 0 := e
    have h1 : 0 ≤ S (fun _ => 1) y n := S_nn fun j hj => by rw [Rat.one_mul]; exact h j (by omega)
    have h2 := h n (by omega)
    by_cases q : j = n
    · rw [q]; grind
    · exact S_nn0 (n := n) (fun j hj => h j (by omega)) (by grind) j (by omega)
end
def sgn1 (b : RowQ) (i : Nat) : Rat := if b i < 0 then -1 else 1
def crow (n m : Nat) (c : RowQ) (d : Rat) : RowQ := fun j => if j < n then c j else if j < n + m then d else 0
def stA (n m : Nat) (R : Mat) (b c : RowQ) (d : Rat) : Mat := fun i => if i = m then crow n m c d else fun j => if j < n then R i j * sgn1 b i else if j < n + m then (if j = n + i then 1 else 0) else b i * sgn1 b i
section
variable {n m : Nat} {R T : Mat} {b c : RowQ} {d : Rat} {h : Nat → Nat}
theorem sgn1_sq (b : RowQ) (i : Nat) : sgn1 b i * sgn1 b i = 1 := by unfold sgn1; split <;> grind
theorem sgn1_b (b : RowQ) (i : Nat) : 0 ≤ b i * sgn1 b i := by unfold sgn1; split <;> grind
theorem stA_m : stA n m R b c d m = crow n m c d := by unfold stA; rw [if_pos rfl]
theorem stA_r {i j : Nat} (hi : i < m) (hj : j < n) : stA n m R b c d i j = R i j * sgn1 b i := by unfold stA; rw [if_neg (by omega)]; show (if j < n then _ else _) = _; rw [if_pos hj]
theorem stA_u {i k : Nat} (hi : i < m) (hk : k < m) : stA n m R b c d i (n + k) = if k = i then 1 else 0 := by
  unfold stA
  rw [if_neg (by omega)]
  show (if n + k < n then _ else if n + k < n + m then (if n + k = n + i then (1 : Rat) else 0) else _) = _
  rw [if_neg (by omega), if_pos (by omega)]
  by_cases e : k = i
  · rw [if_pos e, if_pos (by omega)]
  · rw [if_neg e, if_neg (by omega)]
theorem stA_w {i : Nat} (hi : i < m) : stA n m R b c d i (n + m) = b i * sgn1 b i := by
  unfold stA
  rw [if_neg (by omega)]
  show (if n + m < n then _ else if n + m < n + m then _ else b i * sgn1 b i) = _
  rw [if_neg (by omega), if_neg (by omega)]
theorem crow_r {j : Nat} (hj : j < n) : crow n m c d j = c j := by unfold crow; rw [if_pos hj]
theorem crow_u {k : Nat} (hk : k < m) : crow n m c d (n + k) = d := by unfold crow; rw [if_neg (by omega), if_pos (by omega)]
theorem crow_w : crow n m c d (n + m) = 0 := by unfold crow; rw [if_neg (by omega), if_neg (by omega)]
theorem Tb.dual (t : Tb m (n + m) (stA n m R b c d) T h) {j : Nat} (hj : j < n ∨ j = n + m) : T m j = crow n m c d j - S (fun i => d - T m (n + i)) (fun i => stA n m R b c d i j) m := by
  have inj : ∀ i i', i < m → i' < m → n + i = n + i' → i = i' := fun i i' _ _ e => by omega
  have hd : put (fun i => n + i) (fun i => -stA n m R b c d i j) m j = 0 := put_no fun i hi e => by omega
  have jw : j < n + m + 1 := by omega
  have van : ∀ i, i < m → S (stA n m R b c d i) (upd1 (put (fun i => n + i) (fun i => -stA n m R b c d i j) m) j 1) (n + m + 1) = 0 := fun i hi => by
    rw [S_upd jw, hd, put_S1 (h := fun i => n + i) inj (Nat.le_refl _) hi (by omega) (by rw [stA_u hi hi, if_pos rfl]) (fun i' h1 h2 => by rw [stA_u hi h1, if_neg h2])]
    grind
  have e1 := t.cst _ van
  rw [stA_m, S_upd jw, S_upd jw, hd, put_sum (m := m) inj (fun i hi => by omega) (Nat.le_refl _), put_sum (m := m) inj (fun i hi => by omega) (Nat.le_refl _)] at e1
  have e2 : S (fun i => crow n m c d (n + i)) (fun i => -stA n m R b c d i j) m = S (fun _ => d) (fun i => -stA n m R b c d i j) m := S_congr fun i hi => by rw [crow_u hi]
  rw [e2, S_neg, S_neg] at e1
  rw [show (fun i => d - T m (n + i)) = fun i => (fun _ => d) i - (fun i => T m (n + i)) i from rfl, S_sub]
  grind
def prc (n : Nat) (b : RowQ) (d : Rat) (z : RowQ) : RowQ := fun i => (d - z (n + i)) * sgn1 b i
theorem Tb.col (t : Tb m (n + m) (stA n m R b c d) T h) {j : Nat} (hj : j < n) : T m j = c j - S (fun i => R i j) (prc n b d (T m)) m := by
  rw [t.dual (.inl hj), crow_r hj]
  congr 1
  exact S_congr fun i hi => by rw [stA_r hi hj]; unfold prc; grind
theorem Tb.wor (t : Tb m (n + m) (stA n m R b c d) T h) : T m (n + m) = 0 - S b (prc n b d (T m)) m := by
  rw [t.dual (.inr rfl), crow_w]
  congr 1
  exact S_congr fun i hi => by rw [stA_w hi]; unfold prc; grind
def sln (w m : Nat) (T : Mat) (h : Nat → Nat) : RowQ := put h (fun i => T i w) m
theorem stA_S {x : RowQ} {i : Nat} (hi : i < m) : S (stA n m R b c d i) x (n + m) = S (R i) x n * sgn1 b i + x (n + i) := by
  rw [S_split]
  have e1 : S (stA n m R b c d i) x n = S (R i) x n * sgn1 b i := by
    rw [← S_scale]
    exact S_congr fun j hj => by rw [stA_r hi hj]
  have e2 : S (fun k => stA n m R b c d i (n + k)) (fun k => x (n + k)) m = x (n + i) := by
    rw [S_one (c := i) hi (fun k hk ne => by rw [stA_u hi hk, if_neg ne, Rat.zero_mul]), stA_u hi hi, if_pos rfl, Rat.one_mul]
  rw [e1, e2]
theorem Tb.slnS (t : Tb m (n + m) (stA n m R b c d) T h) {i : Nat} (hi : i < m) : S (R i) (sln (n + m) m T h) n * sgn1 b i + sln (n + m) m T h (n + i) = b i * sgn1 b i := by
  have inj := fun i i' hi hi' e => t.inj (i := i) (i' := i') hi hi' e
  have van := (t.sol (upd1 (sln (n + m) m T h) (n + m) (-1))).mp (fun i hi => by
    rw [S_last]
    unfold sln
    rw [put_S1 inj (Nat.le_refl _) hi (t.lt i hi) (t.one i hi) (fun i' h1 h2 => t.nul i' h1 i (by omega) (fun e => h2 e.symm))]
    grind) i hi
  rw [S_last, stA_w hi, stA_S hi] at van
  grind
theorem Tb.slnW (t : Tb m (n + m) (stA n m R b c d) T h) : S c (sln (n + m) m T h) n + S (fun _ => d) (fun i => sln (n + m) m T h (n + i)) m = 0 - T m (n + m) := by
  have inj := fun i i' hi hi' e => t.inj (i := i) (i' := i') hi hi' e
  have van := (t.sol (upd1 (sln (n + m) m T h) (n + m) (-1))).mp (fun i hi => by
    rw [S_last]
    unfold sln
    rw [put_S1 inj (Nat.le_refl _) hi (t.lt i hi) (t.one i hi) (fun i' h1 h2 => t.nul i' h1 i (by omega) (fun e => h2 e.symm))]
    grind)
  have e := t.cst _ van
  rw [S_last, S_last, stA_m, crow_w] at e
  have e1 : S (T m) (sln (n + m) m T h) (n + m) = 0 := by
    unfold sln
    exact put_S0 fun i' h1 => t.nul i' h1 m (Nat.le_refl _) (by omega)
  rw [e1, S_split] at e
  have e2 : S (crow n m c d) (sln (n + m) m T h) n = S c (sln (n + m) m T h) n := S_congr fun j hj => by rw [crow_r hj]
  have e3 : S (fun i => crow n m c d (n + i)) (fun i => sln (n + m) m T h (n + i)) m = S (fun _ => d) (fun i => sln (n + m) m T h (n + i)) m := S_congr fun i hi => by rw [crow_u hi]
  rw [e2, e3] at e
  grind
theorem sln_nn (f : ∀ i, i < m → 0 ≤ T i (n + m)) (j : Nat) : 0 ≤ sln (n + m) m T h j := put_nn f j
theorem Tb.solves (t : Tb m (n + m) (stA n m R b c d) T h) (z : ∀ i, i < m → sln (n + m) m T h (n + i) = 0) : ∀ i, i < m → S (R i) (sln (n + m) m T h) n = b i := by
  intro i hi
  have := t.slnS hi
  rw [z i hi] at this
  have sq := sgn1_sq b i
  have e : S (R i) (sln (n + m) m T h) n * sgn1 b i * sgn1 b i = b i * sgn1 b i * sgn1 b i := by rw [show S (R i) (sln (n + m) m T h) n * sgn1 b i = b i * sgn1 b i by grind]
  rw [Rat.mul_assoc, sq, Rat.mul_assoc, sq, Rat.mul_one, Rat.mul_one] at e
  exact e
theorem Tb.none_of (t : Tb m (n + m) (stA n m R b (fun _ => 0) 1) T h) (f : ∀ i, i < m → 0 ≤ T i (n + m)) (nn : ∀ j, j < n → 0 ≤ T m j) (ne : T m (n + m) ≠ 0) : Non n m R b (prc n b 1 (T m)) := by
  refine ⟨fun j hj => ?_, ?_⟩
  · have := t.col hj
    have := nn j hj
    grind
  · have h1 := t.slnW
    rw [S_zero (a := fun _ => 0) (n := n) fun j _ => Rat.zero_mul _] at h1
    have h2 : 0 ≤ S (fun _ => 1) (fun i => sln (n + m) m T h (n + i)) m := S_nn fun i hi => by rw [Rat.one_mul]; exact sln_nn f _
    have := t.wor
    grind
theorem Tb.zero_of (t : Tb m (n + m) (stA n m R b (fun _ => 0) 1) T h) (f : ∀ i, i < m → 0 ≤ T i (n + m)) (z : T m (n + m) = 0) : ∀ i, i < m → n ≤ h i → T i (n + m) = 0 := by
  have h1 := t.slnW
  rw [S_zero (a := fun _ => 0) (n := n) fun j _ => Rat.zero_mul _, z] at h1
  have h2 := S_nn0 (y := fun i => sln (n + m) m T h (n + i)) (n := m) (fun i hi => sln_nn f _) (by grind)
  intro i hi hn
  have lt := t.lt i hi
  have := h2 (h i - n) (by omega)
  rw [show n + (h i - n) = h i by omega] at this
  have inj := fun i i' hi hi' e => t.inj (i := i) (i' := i') hi hi' e
  unfold sln at this
  rwa [put_at inj (Nat.le_refl _) i hi] at this
theorem Tb.bounded (t : Tb m (n + m) (stA n m R b (fun _ => 0) 1) T h) {k : Nat} (hk : k < n) (neg : T m k < 0) (col : ∀ i, i < m → ¬ 0 < T i k) : False := by
  have inj := fun i i' hi hi' e => t.inj (i := i) (i' := i') hi hi' e
  have hd : put h (fun i => -T i k) m k = 0 := put_no fun i hi e => by
    have := t.nul i hi m (Nat.le_refl _) (by omega)
    rw [e] at this
    rw [this] at neg
    exact absurd neg (by decide)
  have van := (t.sol (upd1 (put h (fun i => -T i k) m) k 1)).mp (fun i hi => by
    rw [S_upd (by omega), hd, put_S1 inj (Nat.le_refl _) hi (by have := t.lt i hi; omega) (t.one i hi) (fun i' h1 h2 => t.nul i' h1 i (by omega) (fun e => h2 e.symm))]
    grind)
  have e := t.cst _ van
  rw [S_upd (by omega), hd, put_S0 (fun i' h1 => t.nul i' h1 m (Nat.le_refl _) (by omega)), stA_m] at e
  have : 0 ≤ S (crow n m (fun _ => 0) 1) (upd1 (put h (fun i => -T i k) m) k 1) (n + m + 1) := S_nn fun j hj => by
    refine Rat.mul_nonneg ?_ ?_
    · unfold crow
      split
      · exact Rat.le_refl
      · split
        · decide
        · exact Rat.le_refl
    · unfold upd1
      split
      · decide
      · exact put_nn (fun i hi => by have := col i hi; grind) j
  grind
theorem Tb.least_of (t : Tb m (n + m) (stA n m R b c 0) T h) (f : ∀ i, i < m → 0 ≤ T i (n + m)) (art : ∀ i, i < m → n ≤ h i → T i (n + m) = 0) (nn : ∀ j, j < n → 0 ≤ T m j) : Lst n m R b c (sln (n + m) m T h) (prc n b 0 (T m)) (0 - T m (n + m)) := by
  have inj := fun i i' hi hi' e => t.inj (i := i) (i' := i') hi hi' e
  have z : ∀ i, i < m → sln (n + m) m T h (n + i) = 0 := fun i hi => by
    unfold sln
    by_cases q : ∃ i', i' < m ∧ h i' = n + i
    · obtain ⟨i', h1, h2⟩ := q
      rw [← h2, put_at inj (Nat.le_refl _) i' h1]
      exact art i' h1 (by omega)
    · exact put_no fun i' h1 h2 => q ⟨i', h1, h2⟩
  refine ⟨fun j hj => sln_nn f _, t.solves z, ?_, fun j hj => ?_, ?_⟩
  · have h1 := t.slnW
    rw [S_zero (a := fun _ => 0) (n := m) fun j _ => Rat.zero_mul _] at h1
    grind
  · have := t.col hj
    have := nn j hj
    grind
  · have := t.wor
    grind
def wayR (k : Nat) (m : Nat) (T : Mat) (h : Nat → Nat) : RowQ := upd1 (put h (fun i => 0 - T i k) m) k 1
theorem Tb.endless_of (t : Tb m (n + m) (stA n m R b c 0) T h) (f : ∀ i, i < m → 0 ≤ T i (n + m)) (art : ∀ i, i < m → n ≤ h i → T i (n + m) = 0 ∧ ∀ j, j < n → T i j = 0) {k : Nat} (hk : k < n) (neg : T m k < 0) (col : ∀ i, i < m → ¬ 0 < T i k) : Edl n m R b c (sln (n + m) m T h) (wayR k m T h) := by
  have inj := fun i i' hi hi' e => t.inj (i := i) (i' := i') hi hi' e
  have z : ∀ i, i < m → sln (n + m) m T h (n + i) = 0 := fun i hi => by
    unfold sln
    by_cases q : ∃ i', i' < m ∧ h i' = n + i
    · obtain ⟨i', h1, h2⟩ := q
      rw [← h2, put_at inj (Nat.le_refl _) i' h1]
      exact (art i' h1 (by omega)).1
    · exact put_no fun i' h1 h2 => q ⟨i', h1, h2⟩
  have nh : ∀ i, i < m → h i ≠ k := fun i hi e => by
    have := t.nul i hi m (Nat.le_refl _) (by omega)
    rw [e] at this
    rw [this] at neg
    exact absurd neg (by decide)
  have hd : put h (fun i => 0 - T i k) m k = 0 := put_no nh
  have van : ∀ i, i < m → S (stA n m R b c 0 i) (wayR k m T h) (n + m + 1) = 0 := (t.sol _).mp (fun i hi => by
    unfold wayR
    rw [S_upd (by omega), hd, put_S1 inj (Nat.le_refl _) hi (by have := t.lt i hi; omega) (t.one i hi) (fun i' h1 h2 => t.nul i' h1 i (by omega) (fun e => h2 e.symm))]
    grind)
  have w0 : wayR k m T h (n + m) = 0 := by
    unfold wayR upd1
    rw [if_neg (by omega)]
    exact put_no fun i hi e => by have := t.lt i hi; omega
  have wz : ∀ i, i < m → wayR k m T h (n + i) = 0 := fun i hi => by
    unfold wayR upd1
    rw [if_neg (by omega)]
    by_cases q : ∃ i', i' < m ∧ h i' = n + i
    · obtain ⟨i', h1, h2⟩ := q
      rw [← h2, put_at inj (Nat.le_refl _) i' h1, (art i' h1 (by omega)).2 k hk]
      grind
    · exact put_no fun i' h1 h2 => q ⟨i', h1, h2⟩
  have up : ∀ a : RowQ, S a (wayR k m T h) (n + m + 1) = S a (wayR k m T h) (n + m) := fun a => by
    show S a (wayR k m T h) (n + m) + a (n + m) * wayR k m T h (n + m) = _
    rw [w0]; grind
  refine ⟨fun j hj => sln_nn f _, t.solves z, fun j hj => ?_, fun i hi => ?_, ?_⟩
  · unfold wayR upd1
    split
    · decide
    · exact put_nn (fun i hi => by have := col i hi; grind) j
  · have := van i hi
    rw [up, stA_S hi, wz i hi] at this
    have sq := sgn1_sq b i
    have e : S (R i) (wayR k m T h) n * sgn1 b i * sgn1 b i = 0 := by rw [show S (R i) (wayR k m T h) n * sgn1 b i = 0 by grind, Rat.zero_mul]
    rw [Rat.mul_assoc, sq, Rat.mul_one] at e
    exact e
  · have e := t.cst _ van
    rw [up, stA_m, up] at e
    have e1 : S (T m) (wayR k m T h) (n + m) = T m k := by
      unfold wayR
      rw [S_upd (by omega), hd, put_S0 (fun i' h1 => t.nul i' h1 m (Nat.le_refl _) (by omega))]
      grind
    have e2 : S (crow n m c 0) (wayR k m T h) n = S c (wayR k m T h) n := S_congr fun j hj => by rw [crow_r hj]
    have e3 : S (fun i => crow n m c 0 (n + i)) (fun i => wayR k m T h (n + i)) m = 0 := S_zero fun i hi => by rw [wz i hi, Rat.mul_zero]
    rw [e1, S_split, e2, e3] at e
    grind
end
section
variable {n m : Nat} {R : Mat} {b c x x' y u u' : RowQ} {v v' : Rat}
theorem weigh (sol : ∀ i, i < m → S (R i) x n = b i) : S b u m = S (fun j => S (fun i => R i j) u m) x n := by
  rw [← S_swap]
  exact S_congr fun i hi => by rw [sol i hi]
theorem Non.not (k : Non n m R b u) (nn : ∀ j, j < n → 0 ≤ x j) (sol : ∀ i, i < m → S (R i) x n = b i) : False := by
  have h := k.pos
  rw [weigh sol] at h
  have h2 := S_mono (b := fun _ => 0) nn k.low
  rw [S_zero (a := fun _ => 0) fun j _ => Rat.zero_mul _] at h2
  grind
theorem Edl.not (k : Edl n m R b c x y) (low : ∀ j, j < n → S (fun i => R i j) u m ≤ c j) : False := by
  have h := k.neg
  have h2 := S_mono k.nn' low
  rw [← weigh (b := fun _ => 0) k.sol', S_zero (a := fun _ => 0) fun j _ => Rat.zero_mul _] at h2
  grind
theorem Lst.le (k : Lst n m R b c x u v) (nn : ∀ j, j < n → 0 ≤ x' j) (sol : ∀ i, i < m → S (R i) x' n = b i) : v ≤ S c x' n := by
  rw [← k.dual, weigh sol]
  exact S_mono nn k.low
theorem Lst.same (k : Lst n m R b c x u v) (k' : Lst n m R b c x' u' v') : v = v' := by
  have h1 := k.le k'.nn k'.sol
  have h2 := k'.le k.nn k.sol
  rw [k'.val] at h1
  rw [k.val] at h2
  exact Rat.le_antisymm h1 h2
end
end Co
end
noncomputable section
namespace Co
open PySem PySem.Spec PyProof.Rows L2 Pi
def Ra (s t m n : Nat) (A : Mat) : Prop := ∃ M : Int, 0 < M ∧ B t M ∧ ∀ i, i < m → ∀ j, j < n → Qn M s (A i j)
section
variable {m w p c k j s t s' t' u n : Nat} {A0 A A' : Mat} {h : Nat → Nat} {v : Nat → Rat} {y : RowQ} {M P : Int} {a b q : Rat}
theorem Ra.rw (z : Ra s t m n A) {i : Nat} (hi : i < m) : Rw s t n (A i) := by
  obtain ⟨M, p, b, q⟩ := z
  exact ⟨M, p, b, q i hi⟩
theorem Ra.mono (z : Ra s t m n A) (h1 : s ≤ s') (h2 : t ≤ t') : Ra s' t' m n A := by
  obtain ⟨M, p, b, q⟩ := z
  exact ⟨M, p, b.mono h2, fun i hi j hj => (q i hi j hj).mono h1⟩
theorem Ra.congr (z : Ra s t m n A) (e : ∀ i, i < m → ∀ j, j < n → A i j = A' i j) : Ra s t m n A' := by
  obtain ⟨M, p, b, q⟩ := z
  exact ⟨M, p, b, fun i hi j hj => e i hi j hj ▸ q i hi j hj⟩
theorem Ra.sw (z : Ra s t m n A) (hk : k < m) (hj : j < m) : Ra s t m n (sw A k j) := by
  obtain ⟨M, p, b, q⟩ := z
  refine ⟨M, p, b, fun i hi => ?_⟩
  rw [sw_at]
  split
  · exact q k hk
  · split
    · exact q j hj
    · exact q i hi
theorem elimQ (hM : 0 < M) (hP : 0 < P) (bP : B u P) (ha : Qn M s a) (hb : Qn P u b) (hc : Qn M s q) : Qn (M * P) (s + u + 1) (a - b * q) := by
  obtain ⟨x, ex, bx⟩ := ha
  obtain ⟨y, ey, by_⟩ := hb
  obtain ⟨z, ez, bz⟩ := hc
  refine ⟨x * P - y * z, ?_, (bx.mul bP).sub ((by_.mul bz).mono (by omega))⟩
  rw [ex, ey, ez, Rat.divInt_mul_divInt, Int.mul_comm P M, Rat.sub_eq_add_neg, Rat.neg_divInt, Int.sub_eq_add_neg, show Rat.divInt x M = Rat.divInt (x * P) (M * P) from (Rat.divInt_mul_right (by omega)).symm, Rat.divInt_add_divInt _ _ (by have := Int.mul_pos hM hP; omega) (by have := Int.mul_pos hM hP; omega), ← Int.add_mul, Rat.divInt_mul_right (by have := Int.mul_pos hM hP; omega)]
theorem Qn.upl (hM : 0 < M) (bM : B t M) (hb : Qn P u b) : Qn (M * P) (t + u) b := by
  obtain ⟨y, ey, by_⟩ := hb
  exact ⟨M * y, by rw [ey, Rat.divInt_mul_left (by omega)], bM.mul by_⟩
theorem Ra.tnb (z : Ra s t m n A) (ts : t ≤ s) (hp : p < m) (hc : c < n) (ne : A p c ≠ 0) : Ra (2 * s + 1) (t + s) m n (tnb A p c) := by
  have wp := (z.rw hp).scale hc ne
  obtain ⟨M, pM, bM, q⟩ := z
  obtain ⟨P, pP, bP, q'⟩ := wp
  refine ⟨M * P, Int.mul_pos pM pP, bM.mul bP, fun i hi j hj => ?_⟩
  by_cases e : i = p
  · rw [e, tnb_p]
    exact ((q' j hj).upl pM bM).mono (by omega)
  · rw [tnb_i e]
    exact (elimQ pM pP bP (q i hi j hj) (q' j hj) (q i hi c hc)).mono (by omega)
theorem tP_le (ts : t ≤ s) : ∀ k, tP s t k ≤ sP s k
  | 0 => ts
  | k + 1 => by
    have := tP_le ts k
    show tP s t k + sP s k ≤ 2 * sP s k + 1
    omega
structure Pt (m w s t : Nat) (A0 G : Mat) (h : Nat → Nat) (k : Nat) : Prop where
  one : ∀ i, i < k → G i (h i) = 1
  nul : ∀ i, i < k → ∀ i', i' ≤ m → i' ≠ i → G i' (h i) = 0
  sol : ∀ y, (∀ i, i < m → S (G i) y (w + 1) = 0) ↔ (∀ i, i < m → S (A0 i) y (w + 1) = 0)
  cst : ∀ y, (∀ i, i < m → S (A0 i) y (w + 1) = 0) → S (G m) y (w + 1) = S (A0 m) y (w + 1)
  sz : Ra (sP s k) (tP s t k) m (w + 1) G
theorem sw_sol (n : Nat) (hk : k < m) (hj : j < m) (y : RowQ) : (∀ i, i < m → S (sw A k j i) y n = 0) ↔ (∀ i, i < m → S (A i) y n = 0) := by
  constructor
  · intro q i hi
    by_cases e : i = j
    · subst e
      have := q k hk
      rw [sw_at] at this
      by_cases e2 : k = i
      · subst e2; rwa [if_pos rfl] at this
      · rwa [if_neg e2, if_pos rfl] at this
    · by_cases e2 : i = k
      · subst e2
        have := q j hj
        rwa [sw_at, if_pos rfl] at this
      · have := q i hi
        rwa [sw_at, if_neg e, if_neg e2] at this
  · intro q i hi
    rw [sw_at]
    split
    · exact q k hk
    · split
      · exact q j hj
      · exact q i hi
theorem Pt.next {G : Mat} (ts : t ≤ s) (tb : Tb m w A0 A h) (g : Pt m w s t A0 G h k) (hk : k < m) : ∃ G', Pt m w s t A0 G' h (k + 1) := by
  have inj := fun i i' hi hi' e => tb.inj (i := i) (i' := i') hi hi' e
  have hkw := tb.lt k hk
  have ex : ∃ j, k ≤ j ∧ j < m ∧ G j (h k) ≠ 0 := by
    apply Classical.byContradiction
    intro no
    have z : ∀ j, k ≤ j → j < m → G j (h k) = 0 := fun j h1 h2 => Classical.byContradiction fun ne => no ⟨j, h1, h2, ne⟩
    have hd : put h (fun i => -G i (h k)) k (h k) = 0 := put_no fun i hi e => by have := inj i k (by omega) hk e; omega
    have van : ∀ i, i < m → S (G i) (upd1 (put h (fun i => -G i (h k)) k) (h k) 1) (w + 1) = 0 := fun i hi => by
      rw [S_upd (by omega), hd]
      by_cases e : i < k
      · rw [put_S1 inj (by omega) e (by have := tb.lt i (by omega); omega) (g.one i e) (fun i' h1 h2 => g.nul i' h1 i (by omega) (fun e => h2 e.symm))]
        grind
      · rw [put_S0 (fun i' h1 => g.nul i' h1 i (by omega) (by omega)), z i (by omega) hi]
        grind
    have := (tb.sol _).mpr ((g.sol _).mp van) k hk
    rw [S_upd (by omega), hd, put_S0 (fun i' h1 => tb.nul i' (by omega) k (by omega) (by omega)), tb.one k hk, show (0 : Rat) + 1 * (1 - 0) = 1 by grind] at this
    exact absurd this (by decide)
  obtain ⟨j, kj, jm, ne⟩ := ex
  have ne' : sw G k j k (h k) ≠ 0 := by
    rw [sw_at]
    by_cases e : k = j
    · rw [if_pos e, e]; rw [e] at ne; exact ne
    · rw [if_neg e, if_pos rfl]; exact ne
  have swm : sw G k j m = G m := by rw [sw_at, if_neg (by omega), if_neg (by omega)]
  have swi : ∀ i, i < k → sw G k j i = G i := fun i hi => by rw [sw_at, if_neg (by omega), if_neg (by omega)]
  have swz : ∀ i i', i < k → k ≤ i' → i' ≤ m → sw G k j i' (h i) = 0 := fun i i' h1 h2 h3 => by
    rw [sw_at]
    split
    · exact g.nul i h1 k (by omega) (by omega)
    · split
      · exact g.nul i h1 j (by omega) (by omega)
      · exact g.nul i h1 i' h3 (by omega)
  refine ⟨tnb (sw G k j) k (h k), fun i hi => ?_, fun i hi i' hi' e => ?_, fun y => (tnb_sol (w + 1) hk ne' y).trans ((sw_sol (w + 1) hk jm y).trans (g.sol y)), fun y q => ?_, ?_⟩
  · by_cases e : i = k
    · rw [e]; exact tnb_col ne'
    · rw [tnb_old (swz i k (by omega) (Nat.le_refl _) (by omega)) e, swi i (by omega)]
      exact g.one i (by omega)
  · by_cases e1 : i = k
    · rw [e1]; exact tnb_col0 ne' (by omega)
    · have z := swz i k (by omega) (Nat.le_refl _) (by omega)
      by_cases e2 : i' = k
      · rw [e2]; exact tnb_old0 z
      · rw [tnb_old z e2]
        by_cases e3 : i' < k
        · rw [swi i' e3]; exact g.nul i (by omega) i' hi' e
        · exact swz i i' (by omega) (by omega) hi'
  · have q2 := (sw_sol (w + 1) hk jm y).mpr ((g.sol y).mpr q)
    rw [tnb_cst (w + 1) (by omega) (q2 k hk), swm]
    exact g.cst y q
  · exact (g.sz.sw hk jm).tnb (tP_le ts k) hk (by omega) ne'
theorem Tb.size (ts : t ≤ s) (tb : Tb m w A0 A h) (z : Ra s t m (w + 1) A0) : Ra (sP s m) (tP s t m) m (w + 1) A := by
  have ex : ∀ k, k ≤ m → ∃ G, Pt m w s t A0 G h k := by
    intro k
    induction k with
    | zero => exact fun _ => ⟨A0, fun i hi => by omega, fun i hi => by omega, fun y => Iff.rfl, fun y _ => rfl, z⟩
    | succ k ih =>
      intro hk
      obtain ⟨G, g⟩ := ih (by omega)
      exact g.next ts tb (by omega)
  obtain ⟨G, g⟩ := ex m (Nat.le_refl _)
  have tg : Tb m w A0 G h := ⟨tb.lt, g.one, g.nul, g.sol, g.cst⟩
  exact g.sz.congr fun i hi j hj => tg.uniq tb i (by omega) j hj
end
def crw (T : Mat) (h : Nat → Nat) (c : RowQ) (w : Nat) : Nat → RowQ
  | 0 => upd1 c w 0
  | k + 1 => fun j => crw T h c w k j - T k j * c (h k)
section
variable {n m w s t sc tc k e : Nat} {A A0 : Mat} {h : Nat → Nat} {c : RowQ}
theorem crw_rx {N : Int} (pN : 0 < N) (z : Ra s t m (w + 1) A) (hl : ∀ i, i < m → h i < w) (q' : ∀ j, j < w → Qn N sc (c j)) : ∃ M : Int, 0 < M ∧ B t M ∧ ∀ k, k ≤ m → ∀ j, j < w + 1 → Qn (N * M) (sc + s + t + k) (crw A h c w k j) := by
  obtain ⟨M, pM, bM, q⟩ := z
  have pp := Int.mul_pos pN pM
  refine ⟨M, pM, bM, ?_⟩
  intro k
  induction k with
  | zero =>
    intro _ j hj
    show Qn (N * M) _ (upd1 c w 0 j)
    unfold upd1
    split
    · exact Qn.zero.mono (by omega)
    · rw [Int.mul_comm]
      exact ((q' j (by omega)).upl pM bM).mono (by omega)
  | succ k ih =>
    intro hk j hj
    obtain ⟨x, ex, bx⟩ := ih (by omega) j hj
    obtain ⟨y, ey, by_⟩ := q k (by omega) j hj
    obtain ⟨z, ez, bz⟩ := q' (h k) (hl k (by omega))
    refine ⟨x - z * y, ?_, bx.sub ((bz.mul by_).mono (by omega))⟩
    show crw A h c w k j - A k j * c (h k) = _
    rw [ex, ey, ez, Rat.divInt_mul_divInt, Int.mul_comm M N, Int.mul_comm y z, Rat.sub_eq_add_neg, Rat.neg_divInt, Rat.divInt_add_divInt _ _ (by omega) (by omega), ← Int.add_mul, Rat.divInt_mul_right (by omega), Int.sub_eq_add_neg]
theorem crw_rw (z : Ra s t m (w + 1) A) (hl : ∀ i, i < m → h i < w) (hc : Rw sc tc w c) : ∀ k, k ≤ m → Rw (sc + s + t + k) (tc + t) (w + 1) (crw A h c w k) := by
  obtain ⟨N, pN, bN, q'⟩ := hc
  obtain ⟨M, pM, bM, all⟩ := crw_rx pN z hl q'
  intro k hk
  exact ⟨N * M, Int.mul_pos pN pM, bN.mul bM, all k hk⟩
theorem crw_h (tb : Tb m w A0 A h) {i : Nat} (hi : i < m) : ∀ k, k ≤ m → crw A h c w k (h i) = if i < k then 0 else c (h i)
  | 0, _ => by
    show upd1 c w 0 (h i) = _
    have := tb.lt i hi
    unfold upd1
    rw [if_neg (by omega), if_neg (by omega)]
  | k + 1, hk => by
    show crw A h c w k (h i) - A k (h i) * c (h k) = _
    rw [crw_h tb hi k (by omega)]
    by_cases e : i = k
    · rw [if_neg (by omega), if_pos (by omega), ← e, tb.one i hi]; grind
    · rw [tb.nul i hi k (by omega) (fun z => e z.symm)]
      by_cases q : i < k
      · rw [if_pos q, if_pos (by omega)]; grind
      · rw [if_neg q, if_neg (by omega)]; grind
theorem crw_S {y : RowQ} (v : ∀ i, i < m → S (A i) y (w + 1) = 0) : ∀ k, k ≤ m → S (crw A h c w k) y (w + 1) = S (upd1 c w 0) y (w + 1)
  | 0, _ => rfl
  | k + 1, hk => by
    show S (fun j => crw A h c w k j - A k j * c (h k)) y (w + 1) = _
    rw [S_lin, crw_S v k (by omega), v k (by omega)]
    grind
theorem Tb.recost (tb : Tb m w A0 A h) (c : RowQ) : Tb m w (upd1 A0 m (upd1 c w 0)) (upd1 A m (crw A h c w m)) h := by
  have lo : ∀ {B : Mat} {a : RowQ} i, i < m → upd1 B m a i = B i := fun i hi => by unfold upd1; rw [if_neg (by omega)]
  have me : ∀ {B : Mat} {a : RowQ}, upd1 B m a m = a := by intro B a; unfold upd1; rw [if_pos rfl]
  refine ⟨tb.lt, fun i hi => by rw [lo i hi]; exact tb.one i hi, fun i hi i' hi' ne => ?_, fun y => ?_, fun y q => ?_⟩
  · by_cases e : i' = m
    · rw [e, me, crw_h tb hi m (Nat.le_refl _), if_pos hi]
    · rw [lo i' (by omega)]; exact tb.nul i hi i' hi' ne
  · constructor
    · intro q i hi
      rw [lo i hi]
      exact (tb.sol y).mp (fun i hi => by have := q i hi; rwa [lo i hi] at this) i hi
    · intro q i hi
      rw [lo i hi]
      exact (tb.sol y).mpr (fun i hi => by have := q i hi; rwa [lo i hi] at this) i hi
  · rw [me, me]
    exact crw_S ((tb.sol y).mpr fun i hi => by have := q i hi; rwa [lo i hi] at this) m (Nat.le_refl _)
theorem Tb.cost (tb : Tb m w A0 A h) (e : A0 m = upd1 c w 0) : ∀ j, j < w + 1 → A m j = crw A h c w m j := by
  intro j hj
  have r := tb.recost c
  have e2 : upd1 A0 m (upd1 c w 0) = A0 := by
    funext i
    unfold upd1
    split
    · rename_i q
      rw [q, e]
      rfl
    · rfl
  rw [e2] at r
  have := tb.uniq r m (Nat.le_refl _) j hj
  rw [this]
  unfold upd1
  rw [if_pos rfl]
theorem Tb.csizeX {N : Int} (pN : 0 < N) (ts : t ≤ s) (tb : Tb m w A0 A h) (z : Ra s t m (w + 1) A0) (hc : ∀ j, j < w → Qn N sc (c j)) (e : A0 m = upd1 c w 0) : ∃ M : Int, 0 < M ∧ B (tP s t m) M ∧ ∀ j, j < w + 1 → Qn (N * M) (sc + sP s m + tP s t m + m) (A m j) := by
  obtain ⟨M, pM, bM, q⟩ := crw_rx pN (tb.size ts z) tb.lt hc
  exact ⟨M, pM, bM, fun j hj => by rw [tb.cost e j hj]; exact q m (Nat.le_refl _) j hj⟩
theorem Tb.csize (ts : t ≤ s) (tb : Tb m w A0 A h) (z : Ra s t m (w + 1) A0) (hc : Rw sc tc w c) (e : A0 m = upd1 c w 0) : Rw (sc + sP s m + tP s t m + m) (tc + tP s t m) (w + 1) (A m) :=
  (crw_rw (tb.size ts z) tb.lt hc m (Nat.le_refl _)).congr fun j hj => (tb.cost e j hj).symm
end
end Co
end
noncomputable section
namespace Co
open PySem PySem.Spec PyProof.Rows L2 Pi
def tbl (c n : Nat) (sg : List D) (m w : Nat) (T : Mat) (h : Nat → Nat) : D := .obj c [.int (n : Nat), .lst sg, mtD m (w + 1) T, .lst (hdL m h)]
theorem sSubF_of {i c j n : Nat} {ek ev : EvE} {en : En} {l m : List D} {d : D} {z : Int} (h : en[i]? = some (some (.obj c l))) (hl : l[j]? = some (.lst m)) (he : ev en = .ok d) (hk : ek en = .ok (.int z)) (hn : ixN m.length z = some n) : sSubF i c j ek ev en = .ok (.nx (en.set i (some (.obj c (l.set j (.lst (m.set n d))))))) := by
  unfold sSubF
  rw [h]
  dsimp only
  rw [if_pos rfl, hl]
  dsimp only
  rw [he, bnd_ok, hk, bnd_ok]
  dsimp only
  rw [hn]
abbrev bTel (e c : Nat) : EvS := (sIf (tV (eB2 oNe (eVar 4) (eVar 1)))
 (sSubF 0 c 2 (eVar 4) (eCall (f_lrowE e) (aCons (eB2 oIx (eFld c 2 (eVar 0)) (eVar 4)) (aCons (eB2 oIx (eFld c 2 (eVar 0)) (eVar 1)) (aCons (eFl (eB2 oIx (eB2 oIx (eFld c 2 (eVar 0)) (eVar 4)) (eVar 2))) aNil)))))
 sNil)
section
variable {n m w s t c cl p k e : Nat} {sg : List D} {A : Mat} {h : Nat → Nat} {r : D} {o4 : Option D}
abbrev ten (cl n : Nat) (sg : List D) (m w : Nat) (A : Mat) (h : Nat → Nat) (p c : Nat) (r : D) (o4 : Option D) : En := [some (tbl cl n sg m w A h), some (.int (p : Nat)), some (.int (c : Nat)), some r, o4]
theorem fld2 {en : En} : eFld cl 2 (eVar 0) (some (tbl cl n sg m w A h) :: en) = .ok (mtD m (w + 1) A) := by simp [eFld, tbl]
theorem hdL_set (m p c : Nat) (h : Nat → Nat) : (hdL m h).set p (.int (c : Nat)) = hdL m (upd1 h p c) := by
  unfold hdL
  rw [map_range_set]
  exact map_range_congr fun i _ => by unfold upd1; by_cases e : i = p; · rw [if_pos e, if_pos e]
                                      · rw [if_neg e, if_neg e]
theorem tel_loop (w1 : ∀ i, i < m → i ≠ p → Rw s t (w + 1) (A i)) (wp : Rw s s (w + 1) (A p)) (hp : p < m) (hc : c < w + 1) (b : 2 * t + s ≤ 8900) (b2 : s < 300000) (hm : m < 1000) (hw : w < 1000) :
    ∃ o4', evFor (set1 4) (bTel e cl) ((List.range m).map fun k : Nat => D.int k) (ten cl n sg m w A h p c r o4) = .ok (.nx (ten cl n sg m w (elN A p c m) h p c r o4')) := by
  obtain ⟨en', lp, o4', rfl⟩ := evFor_rng (set := set1 4) (body := bTel e cl) (q := fun i => .int (i : Nat)) m
    (fun i en => ∃ o4, en = ten cl n sg m w (elN A p c i) h p c r o4) (ten cl n sg m w A h p c r o4) ⟨o4, by
      have : elN A p c 0 = A := by funext i'; unfold elN; rw [if_neg (by omega)]
      rw [this]⟩ (by
      rintro i en hi ⟨o4, rfl⟩
      refine ⟨ten cl n sg m w (elN A p c i) h p c r (some (.int (i : Nat))), rfl, ?_⟩
      by_cases ik : i = p
      · subst ik
        refine ⟨_, sIf_ff (tV_of (b := false) (eB2_of rfl rfl (by rw [oNe_nat, decide_eq_true rfl]; rfl))), some (.int (i : Nat)), ?_⟩
        rw [elN_k]
      · have hl : eCall (f_lrowE e) (aCons (eB2 oIx (eFld cl 2 (eVar 0)) (eVar 4)) (aCons (eB2 oIx (eFld cl 2 (eVar 0)) (eVar 1)) (aCons (eFl (eB2 oIx (eB2 oIx (eFld cl 2 (eVar 0)) (eVar 4)) (eVar 2))) aNil))) (ten cl n sg m w (elN A p c i) h p c r (some (.int (i : Nat)))) = .ok (rwD (w + 1) (elm A p c i)) := by
          rw [elm_i ik]
          refine eCall3_of (eB2_of fld2 rfl (oIx_mt hi)) (eB2_of fld2 rfl (oIx_mt hp)) (eFl_of (eB2_of (eB2_of fld2 rfl (oIx_mt hi)) rfl (oIx_rw hc)) (flat_rD _)) ?_
          rw [elN_at A p c (.inl (Nat.le_refl i)), elN_at A p c (.inr rfl)]
          exact lrowE_eq (fun j hj => (w1 i hi ik).rb hj) (fun j hj => wp.rb hj) ((w1 i hi ik).rb hc) (by omega) (by omega) (by omega) (by omega)
        refine ⟨_, sIf_tt (tV_of (b := true) (eB2_of rfl rfl (by rw [oNe_nat, decide_eq_false ik]; rfl))) (sSubF_of (i := 0) (j := 2) (m := mtL m (w + 1) (elN A p c i)) (n := i) rfl rfl hl rfl (ixN_nat (by rw [mtL_len]; exact hi))), some (.int (i : Nat)), ?_⟩
        rw [mtL_set, ← elN_s]
        rfl)
  exact ⟨o4', lp⟩
end
def s_turnE (e c : Nat) : EvX := (sB (sSubF 0 c 2 (eVar 1) (eCall (f_trowE e) (aCons (eB2 oIx (eFld c 2 (eVar 0)) (eVar 1)) (aCons (eFl (eCall (f_quotE e) (aCons (eC gO) (aCons (eB2 oIx (eB2 oIx (eFld c 2 (eVar 0)) (eVar 1)) (eVar 2)) aNil)))) aNil))))
 (sB (sSubF 0 c 3 (eVar 1) (eFl (eVar 2)))
 (sB (sFor (iRn (aCons (eFl (eBi oLen (aCons (eFld c 2 (eVar 0)) aNil))) aNil)) (set1 4)
 (bTel e c))
 (xPure (eCall (f_lrowE e) (aCons (eVar 3) (aCons (eB2 oIx (eFld c 2 (eVar 0)) (eVar 1)) (aCons (eB2 oIx (eVar 3) (eVar 2)) aNil))))))))
def f_turnE (e c : Nat) : List D → Rs D := runX 1 1 sStuck (s_turnE e c)
section
variable {n m w s t c cl p k e : Nat} {sg : List D} {A : Mat} {h : Nat → Nat} {r : D} {o4 : Option D}
theorem turn_eq {s2 t2 : Nat} (z : ∀ i, i < m → Rw s t (w + 1) (A i)) (zm : Rw s2 t2 (w + 1) (A m)) (hp : p < m) (hc : c < w + 1) (ne : A p c ≠ 0) (b : 2 * t + s + 2 ≤ 8900) (b' : 2 * t2 + s ≤ 8900) (b2 : s < 300000) (b3 : s2 < 300000) (hm : m < 1000) (hw : w < 1000) :
    f_turnE e cl [tbl cl n sg m w A h, .int (p : Nat), .int (c : Nat), rwD (w + 1) (A m)] = .ok (.tup [rwD (w + 1) (tnb A p c m), tbl cl n sg m w (tnb A p c) (upd1 h p c)]) := by
  have wp := (z p (by omega)).scale hc ne
  have w1 : ∀ i, i < m → i ≠ p → Rw s t (w + 1) (sca A p c i) := fun i hi q => by rw [sca_i q]; exact z i hi
  have tr : eCall (f_trowE e) (aCons (eB2 oIx (eFld cl 2 (eVar 0)) (eVar 1)) (aCons (eFl (eCall (f_quotE e) (aCons (eC gO) (aCons (eB2 oIx (eB2 oIx (eFld cl 2 (eVar 0)) (eVar 1)) (eVar 2)) aNil)))) aNil)) (ten cl n sg m w A h p c (rwD (w + 1) (A m)) none) = .ok (rwD (w + 1) fun j => A p j * (1 / A p c)) :=
    eCall2_of (eB2_of fld2 rfl (oIx_mt hp)) (eFl_of (eCall2_of (x := rD 1) rfl (eB2_of (eB2_of fld2 rfl (oIx_mt hp)) rfl (oIx_rw hc)) (quotE_eq Rb_1 ((z p (by omega)).rb hc) ne (by omega) (by omega) (by omega))) (flat_rD _))
      (trowE_eq (fun j hj => (z p (by omega)).rb hj) (Rb_1.div ((z p (by omega)).rb hc) ne) (by omega) (by omega) (by omega) (by omega))
  have e1 : sSubF 0 cl 2 (eVar 1) (eCall (f_trowE e) (aCons (eB2 oIx (eFld cl 2 (eVar 0)) (eVar 1)) (aCons (eFl (eCall (f_quotE e) (aCons (eC gO) (aCons (eB2 oIx (eB2 oIx (eFld cl 2 (eVar 0)) (eVar 1)) (eVar 2)) aNil)))) aNil))) (ten cl n sg m w A h p c (rwD (w + 1) (A m)) none) = .ok (.nx (ten cl n sg m w (sca A p c) h p c (rwD (w + 1) (A m)) none)) := by
    rw [sSubF_of (i := 0) (j := 2) (m := mtL m (w + 1) A) (n := p) rfl rfl tr rfl (ixN_nat (by rw [mtL_len]; exact hp)), mtL_set]
    rfl
  have e2 : sSubF 0 cl 3 (eVar 1) (eFl (eVar 2)) (ten cl n sg m w (sca A p c) h p c (rwD (w + 1) (A m)) none) = .ok (.nx (ten cl n sg m w (sca A p c) (upd1 h p c) p c (rwD (w + 1) (A m)) none)) := by
    rw [sSubF_of (i := 0) (j := 3) (m := hdL m h) (n := p) rfl rfl (eFl_of rfl rfl) rfl (ixN_nat (by rw [hdL_len]; exact hp)), hdL_set]
    rfl
  obtain ⟨o4', lp⟩ := tel_loop (cl := cl) (n := n) (sg := sg) (h := upd1 h p c) (r := rwD (w + 1) (A m)) (o4 := none) (e := e) w1 (by rw [sca_k]; exact wp) hp hc (by omega) b2 hm hw
  have e3 : sFor (iRn (aCons (eFl (eBi oLen (aCons (eFld cl 2 (eVar 0)) aNil))) aNil)) (set1 4) (bTel e cl) (ten cl n sg m w (sca A p c) (upd1 h p c) p c (rwD (w + 1) (A m)) none) = .ok (.nx (ten cl n sg m w (elN (sca A p c) p c m) (upd1 h p c) p c (rwD (w + 1) (A m)) o4')) :=
    sFor_of (iRn1_of (i := .int (m : Nat)) (eFl_of (eBi1_of (x := .lst (mtL m (w + 1) (sca A p c))) fld2 (by rw [oLen_lst, mtL_len])) rfl) (oRng_nat (by omega))) lp
  have e4 : eCall (f_lrowE e) (aCons (eVar 3) (aCons (eB2 oIx (eFld cl 2 (eVar 0)) (eVar 1)) (aCons (eB2 oIx (eVar 3) (eVar 2)) aNil))) (ten cl n sg m w (elN (sca A p c) p c m) (upd1 h p c) p c (rwD (w + 1) (A m)) o4') = .ok (rwD (w + 1) (tnb A p c m)) := by
    refine eCall3_of rfl (eB2_of fld2 rfl (oIx_mt hp)) (eB2_of rfl rfl (oIx_rw hc)) ?_
    rw [elN_at _ p c (.inr rfl), sca_k, tnb_i (by omega)]
    exact lrowE_eq (fun j hj => zm.rb hj) (fun j hj => wp.rb hj) (zm.rb hc) (by omega) (by omega) (by omega) (by omega)
  have fin : tbl cl n sg m w (elN (sca A p c) p c m) (upd1 h p c) = tbl cl n sg m w (tnb A p c) (upd1 h p c) := by
    unfold tbl mtD
    rw [mtL_congr fun i hi j' hj' => by unfold elN; rw [if_pos hi]]
    rfl
  refine runX_of (p := (rwD (w + 1) (tnb A p c m), ten cl n sg m w (elN (sca A p c) p c m) (upd1 h p c) p c (rwD (w + 1) (A m)) o4')) (news := [tbl cl n sg m w (tnb A p c) (upd1 h p c)]) (.inl rfl) ?_ ?_
  · show s_turnE e cl (ten cl n sg m w A h p c (rwD (w + 1) (A m)) none) = _
    unfold s_turnE
    rw [sB_of e1 rfl, sB_of e2 rfl, sB_of e3 rfl, xPure_of e4]
  · rw [← fin]
    rfl
def ratQ (A : Mat) (w c k : Nat) : Rat := A k w / A k c
open Classical in
def plc (A : Mat) (h : Nat → Nat) (w c : Nat) : Nat → Option Nat
  | 0 => none
  | k + 1 => if 0 < A k c then (match plc A h w c k with
    | none => some k
    | some f => if ratQ A w c k < ratQ A w c f ∨ (ratQ A w c k = ratQ A w c f ∧ h k < h f) then some k else some f) else plc A h w c k
theorem plc_none : ∀ {m : Nat}, plc A h w c m = none → ∀ k, k < m → ¬ 0 < A k c
  | 0, _, k, hk => by omega
  | m + 1, e, k, hk => by
    unfold plc at e
    split at e
    · split at e
      · cases e
      · split at e <;> cases e
    · rename_i np
      by_cases q : k = m
      · rw [q]; exact np
      · exact plc_none e k (by omega)
theorem plc_some : ∀ {m : Nat} {p : Nat}, plc A h w c m = some p → p < m ∧ 0 < A p c ∧ ∀ k, k < m → 0 < A k c → ratQ A w c p < ratQ A w c k ∨ (ratQ A w c p = ratQ A w c k ∧ h p ≤ h k)
  | 0, p, e => by cases e
  | m + 1, p, e => by
    unfold plc at e
    split at e
    · rename_i ps
      split at e
      · rename_i q
        cases e
        refine ⟨by omega, ps, fun k hk pk => ?_⟩
        by_cases km : k = m
        · rw [km]; exact .inr ⟨rfl, Nat.le_refl _⟩
        · exact absurd pk (plc_none q k (by omega))
      · rename_i f q
        obtain ⟨h1, h2, h3⟩ := plc_some q
        split at e
        · rename_i lt
          cases e
          refine ⟨by omega, ps, fun k hk pk => ?_⟩
          by_cases km : k = m
          · rw [km]; exact .inr ⟨rfl, Nat.le_refl _⟩
          · rcases h3 k (by omega) pk with z | ⟨z, z2⟩
            · rcases lt with l | ⟨l, l2⟩
              · exact .inl (by grind)
              · exact .inl (by grind)
            · rcases lt with l | ⟨l, l2⟩
              · exact .inl (by grind)
              · exact .inr ⟨by grind, by omega⟩
        · rename_i nl
          cases e
          refine ⟨by omega, h2, fun k hk pk => ?_⟩
          by_cases km : k = m
          · rw [km]
            by_cases l : ratQ A w c p < ratQ A w c m
            · exact .inl l
            · have : ¬ ratQ A w c m < ratQ A w c p := fun z => nl (.inl z)
              have e2 : ratQ A w c p = ratQ A w c m := by grind
              exact .inr ⟨e2, by
                have : ¬ h m < h p := fun z => nl (.inr ⟨e2.symm, z⟩)
                omega⟩
          · exact h3 k (by omega) pk
    · rename_i np
      obtain ⟨h1, h2, h3⟩ := plc_some e
      refine ⟨by omega, h2, fun k hk pk => ?_⟩
      by_cases km : k = m
      · rw [km] at pk; exact absurd pk np
      · exact h3 k (by omega) pk
end
abbrev bPlc (e c : Nat) : EvS := (sSeq (sAs 5 (eFl (eB2 oIx (eB2 oIx (eFld c 2 (eVar 0)) (eVar 4)) (eVar 1))))
  (sIf (tV (eCall f_less (aCons (eC gN) (aCons (eVar 5) aNil))))
 (sSeq (sAs 6 (eCall (f_quotE e) (aCons (eB2 oIx (eB2 oIx (eFld c 2 (eVar 0)) (eVar 4)) (eU1 oNeg (eC (.int 1)))) (aCons (eVar 5) aNil))))
  (sSeq (sAs 7 (eAn (eB2 (oIs true) (eVar 2) (eC .non)) (eAn (eB2 oEq (eVar 6) (eVar 3)) (eB2 oLt (eB2 oIx (eFld c 3 (eVar 0)) (eVar 4)) (eB2 oIx (eFld c 3 (eVar 0)) (eVar 2))))))
  (sIf (tO (tV (eB2 (oIs false) (eVar 2) (eC .non))) (tO (tV (eCall f_less (aCons (eVar 6) (aCons (eVar 3) aNil)))) (tV (eVar 7))))
 (sSeq (sAs 2 (eFl (eVar 4)))
  (sAs 3 (eFl (eVar 6))))
 sNil)))
 sNil))
def s_placeE (e c : Nat) : EvS := (sSeq (sAs 2 (eC .non))
  (sSeq (sAs 3 (eFl (eC gN)))
  (sSeq (sFor (iRn (aCons (eBi oLen (aCons (eFld c 2 (eVar 0)) aNil)) aNil)) (set1 4)
 (bPlc e c))
  (sRet (eVar 2)))))
def f_placeE (e c : Nat) : List D → Rs D := runF 6 (s_placeE e c)
section
variable {n m w s t c cl p k e : Nat} {sg : List D} {A : Mat} {h : Nat → Nat} {r : D} {o4 o5 o6 o7 : Option D}
theorem oIx_rwL (w : Nat) (a : RowQ) : oIx (rwD (w + 1) a) (.int (-1)) = some (rD (a w)) := by
  show L2.atI (rwL (w + 1) a) (-1) = some (rD (a w))
  unfold L2.atI
  rw [rwL_len, show ixN (w + 1) (-1) = some w from by
    unfold ixN
    rw [if_neg (by decide), if_pos (by omega)]
    congr 1
    omega]
  exact atR (by omega)
theorem fld3 {en : En} : eFld cl 3 (eVar 0) (some (tbl cl n sg m w A h) :: en) = .ok (.lst (hdL m h)) := by simp [eFld, tbl]
theorem oIx_hd {i : Nat} (hi : i < m) : oIx (.lst (hdL m h)) (.int (i : Nat)) = some (.int (h i : Nat)) := oIx_nat (atR hi)
def plD : Option Nat → D
  | none => .non
  | some f => .int (f : Nat)
def plR (A : Mat) (w c : Nat) : Option Nat → D
  | none => rD 0
  | some f => rD (ratQ A w c f)
abbrev pen (cl n : Nat) (sg : List D) (m w : Nat) (A : Mat) (h : Nat → Nat) (c : Nat) (o : Option Nat) (o4 o5 o6 o7 : Option D) : En := [some (tbl cl n sg m w A h), some (.int (c : Nat)), some (plD o), some (plR A w c o), o4, o5, o6, o7]
theorem plc_step (z : ∀ i, i < m → Rw s t (w + 1) (A i)) (hc : c < w + 1) (b : t + s ≤ 8900) (b2 : s < 300000) {i : Nat} (hi : i < m) :
    ∃ o5' o6' o7', bPlc e cl (pen cl n sg m w A h c (plc A h w c i) (some (.int (i : Nat))) o5 o6 o7) = .ok (.nx (pen cl n sg m w A h c (plc A h w c (i + 1)) (some (.int (i : Nat))) o5' o6' o7')) := by
  have part : ∀ o o5 o6 o7, eFl (eB2 oIx (eB2 oIx (eFld cl 2 (eVar 0)) (eVar 4)) (eVar 1)) (pen cl n sg m w A h c o (some (.int (i : Nat))) o5 o6 o7) = .ok (rD (A i c)) := fun o o5 o6 o7 => eFl_of (eB2_of (eB2_of fld2 rfl (oIx_mt hi)) rfl (oIx_rw hc)) (flat_rD _)
  have ps : ∀ o o6 o7, tV (eCall f_less (aCons (eC gN) (aCons (eVar 5) aNil))) (pen cl n sg m w A h c o (some (.int (i : Nat))) (some (rD (A i c))) o6 o7) = .ok (decide (0 < A i c)) := fun o o6 o7 => tV_of (eCall2_of (x := rD 0) rfl rfl (lessE_eq (n := 1) (m := 0) Rb_0 ((z i hi).rb hc) (by omega) (by omega) (by omega) (by omega)))
  have a5 : sAs 5 (eFl (eB2 oIx (eB2 oIx (eFld cl 2 (eVar 0)) (eVar 4)) (eVar 1))) (pen cl n sg m w A h c (plc A h w c i) (some (.int (i : Nat))) o5 o6 o7) = .ok (.nx (pen cl n sg m w A h c (plc A h w c i) (some (.int (i : Nat))) (some (rD (A i c))) o6 o7)) := sAs_of (part _ _ _ _)
  by_cases pos : 0 < A i c
  · have tt := ps (plc A h w c i) o6 o7
    rw [decide_eq_true pos] at tt
    have rb : ∀ j, j < m → 0 < A j c → Rb (s + t) (t + s) (ratQ A w c j) := fun j hj pj => ((z j hj).rb (by omega)).div ((z j hj).rb hc) (by grind)
    have a6 : sAs 6 (eCall (f_quotE e) (aCons (eB2 oIx (eB2 oIx (eFld cl 2 (eVar 0)) (eVar 4)) (eU1 oNeg (eC (.int 1)))) (aCons (eVar 5) aNil))) (pen cl n sg m w A h c (plc A h w c i) (some (.int (i : Nat))) (some (rD (A i c))) o6 o7) = .ok (.nx (pen cl n sg m w A h c (plc A h w c i) (some (.int (i : Nat))) (some (rD (A i c))) (some (rD (ratQ A w c i))) o7)) :=
      sAs_of (eCall2_of (eB2_of (y := .int (-1)) (eB2_of fld2 rfl (oIx_mt hi)) rfl (oIx_rwL w _)) rfl (quotE_eq ((z i hi).rb (by omega)) ((z i hi).rb hc) (by grind) (by omega) (by omega) (by omega)))
    have hd : ∀ (k : Nat) o al, k < m → eB2 oIx (eFld cl 3 (eVar 0)) (eVar 4) (pen cl n sg m w A h c o (some (.int (k : Nat))) (some (rD (A i c))) (some (rD (ratQ A w c i))) al) = .ok (.int (h k : Nat)) := fun k o al hk => eB2_of fld3 rfl (oIx_hd hk)
    cases q : plc A h w c i with
    | none =>
      have nx : plc A h w c (i + 1) = some i := by unfold plc; rw [if_pos pos, q]
      rw [q] at a5 a6 tt
      refine ⟨some (rD (A i c)), some (rD (ratQ A w c i)), some (.bl false), ?_⟩
      rw [nx]
      show sSeq _ _ _ = _
      rw [seq_nx a5]
      refine sIf_tt tt ?_
      show sSeq _ _ _ = _
      rw [seq_nx a6, seq_nx (en' := pen cl n sg m w A h c none (some (.int (i : Nat))) (some (rD (A i c))) (some (rD (ratQ A w c i))) (some (.bl false))) (sAs_of rfl)]
      refine sIf_tt (tO_t (tV_of (b := true) rfl)) ?_
      show sSeq _ _ _ = _
      rw [seq_nx (en' := [some (tbl cl n sg m w A h), some (.int (c : Nat)), some (.int (i : Nat)), some (rD 0), some (.int (i : Nat)), some (rD (A i c)), some (rD (ratQ A w c i)), some (.bl false)]) (sAs_of (eFl_of rfl rfl)), sAs_of (eFl_of rfl (flat_rD _))]
      rfl
    | some f =>
      obtain ⟨fi, fp, _⟩ := plc_some q
      rw [q] at a5 a6 tt
      have lt : tV (eCall f_less (aCons (eVar 6) (aCons (eVar 3) aNil))) = tV (eCall f_less (aCons (eVar 6) (aCons (eVar 3) aNil))) := rfl
      have al : ∀ o7, eAn (eB2 (oIs true) (eVar 2) (eC .non)) (eAn (eB2 oEq (eVar 6) (eVar 3)) (eB2 oLt (eB2 oIx (eFld cl 3 (eVar 0)) (eVar 4)) (eB2 oIx (eFld cl 3 (eVar 0)) (eVar 2)))) (pen cl n sg m w A h c (some f) (some (.int (i : Nat))) (some (rD (A i c))) (some (rD (ratQ A w c i))) o7) = .ok (.bl (decide (ratQ A w c i = ratQ A w c f ∧ h i < h f))) := fun o7 => by
        rw [eAn_ap, eB2_of (z := .bl true) rfl rfl rfl, bnd_ok, asB_bl, ofO_some, bnd_ok, if_pos rfl]
        rw [eAn_ap, eB2_of (x := rD (ratQ A w c i)) (y := rD (ratQ A w c f)) rfl rfl (oEq_rL _ _), bnd_ok, asB_bl, ofO_some, bnd_ok]
        by_cases e1 : ratQ A w c i = ratQ A w c f
        · rw [if_pos (decide_eq_true e1)]
          rw [eB2_of (x := .int (h i : Nat)) (y := .int (h f : Nat)) (eB2_of fld3 rfl (oIx_hd hi)) (eB2_of fld3 rfl (oIx_hd (by omega))) (show _ = some (D.bl (decide ((h i : Int) < (h f : Int)))) from rfl)]
          have : decide ((h i : Int) < (h f : Int)) = decide (ratQ A w c i = ratQ A w c f ∧ h i < h f) := by rw [Bool.eq_iff_iff, decide_eq_true_eq, decide_eq_true_eq]; exact ⟨fun z => ⟨e1, by omega⟩, fun z => by have := z.2; omega⟩
          rw [this]
        · rw [if_neg (by simp [e1]), decide_eq_false (fun z => e1 z.1)]
      have ls : ∀ o7, tV (eCall f_less (aCons (eVar 6) (aCons (eVar 3) aNil))) (pen cl n sg m w A h c (some f) (some (.int (i : Nat))) (some (rD (A i c))) (some (rD (ratQ A w c i))) o7) = .ok (decide (ratQ A w c i < ratQ A w c f)) := fun o7 => tV_of (eCall2_of (x := rD (ratQ A w c i)) (y := rD (ratQ A w c f)) rfl rfl (lessE_eq (rb i hi pos) (rb f (by omega) fp) (by omega) (by omega) (by omega) (by omega)))
      have tst : tO (tV (eB2 (oIs false) (eVar 2) (eC .non))) (tO (tV (eCall f_less (aCons (eVar 6) (aCons (eVar 3) aNil)))) (tV (eVar 7))) (pen cl n sg m w A h c (some f) (some (.int (i : Nat))) (some (rD (A i c))) (some (rD (ratQ A w c i))) (some (.bl (decide (ratQ A w c i = ratQ A w c f ∧ h i < h f))))) = .ok (decide (ratQ A w c i < ratQ A w c f ∨ (ratQ A w c i = ratQ A w c f ∧ h i < h f))) := by
        refine tO_f (tV_of (b := false) rfl) ?_
        by_cases e1 : ratQ A w c i < ratQ A w c f
        · rw [decide_eq_true (.inl e1 : ratQ A w c i < ratQ A w c f ∨ (ratQ A w c i = ratQ A w c f ∧ h i < h f))]
          exact tO_t (by rw [ls, decide_eq_true e1])
        · have : decide (ratQ A w c i < ratQ A w c f ∨ (ratQ A w c i = ratQ A w c f ∧ h i < h f)) = decide (ratQ A w c i = ratQ A w c f ∧ h i < h f) := by rw [Bool.eq_iff_iff, decide_eq_true_eq, decide_eq_true_eq]; exact ⟨fun z => z.resolve_left e1, .inr⟩
          rw [this]
          exact tO_f (by rw [ls, decide_eq_false e1]) (tV_of rfl)
      by_cases better : ratQ A w c i < ratQ A w c f ∨ (ratQ A w c i = ratQ A w c f ∧ h i < h f)
      · have nx : plc A h w c (i + 1) = some i := by unfold plc; rw [if_pos pos, q]; dsimp only; rw [if_pos better]
        rw [decide_eq_true better] at tst
        refine ⟨some (rD (A i c)), some (rD (ratQ A w c i)), some (.bl (decide (ratQ A w c i = ratQ A w c f ∧ h i < h f))), ?_⟩
        rw [nx]
        show sSeq _ _ _ = _
        rw [seq_nx a5]
        refine sIf_tt tt ?_
        show sSeq _ _ _ = _
        rw [seq_nx a6, seq_nx (en' := pen cl n sg m w A h c (some f) (some (.int (i : Nat))) (some (rD (A i c))) (some (rD (ratQ A w c i))) (some (.bl (decide (ratQ A w c i = ratQ A w c f ∧ h i < h f))))) (sAs_of (al _))]
        refine sIf_tt tst ?_
        show sSeq _ _ _ = _
        rw [seq_nx (en' := [some (tbl cl n sg m w A h), some (.int (c : Nat)), some (.int (i : Nat)), some (rD (ratQ A w c f)), some (.int (i : Nat)), some (rD (A i c)), some (rD (ratQ A w c i)), some (.bl (decide (ratQ A w c i = ratQ A w c f ∧ h i < h f)))]) (sAs_of (eFl_of rfl rfl)), sAs_of (eFl_of rfl (flat_rD _))]
        rfl
      · have nx : plc A h w c (i + 1) = some f := by unfold plc; rw [if_pos pos, q]; dsimp only; rw [if_neg better]
        rw [decide_eq_false better] at tst
        refine ⟨some (rD (A i c)), some (rD (ratQ A w c i)), some (.bl (decide (ratQ A w c i = ratQ A w c f ∧ h i < h f))), ?_⟩
        rw [nx]
        show sSeq _ _ _ = _
        rw [seq_nx a5]
        refine sIf_tt tt ?_
        show sSeq _ _ _ = _
        rw [seq_nx a6, seq_nx (en' := pen cl n sg m w A h c (some f) (some (.int (i : Nat))) (some (rD (A i c))) (some (rD (ratQ A w c i))) (some (.bl (decide (ratQ A w c i = ratQ A w c f ∧ h i < h f))))) (sAs_of (al _))]
        exact sIf_ff tst
  · have tt := ps (plc A h w c i) o6 o7
    rw [decide_eq_false pos] at tt
    have nx : plc A h w c (i + 1) = plc A h w c i := by conv => lhs; unfold plc
                                                        rw [if_neg pos]
    refine ⟨some (rD (A i c)), o6, o7, ?_⟩
    rw [nx]
    show sSeq _ _ _ = _
    rw [seq_nx a5]
    exact sIf_ff tt
theorem plcF_eq (z : ∀ i, i < m → Rw s t (w + 1) (A i)) (hc : c < w + 1) (b : t + s ≤ 8900) (b2 : s < 300000) (hm : m < 1000) : f_placeE e cl [tbl cl n sg m w A h, .int (c : Nat)] = .ok (plD (plc A h w c m)) := by
  obtain ⟨en', lp, o4, o5, o6, o7, rfl⟩ := evFor_rng (set := set1 4) (body := bPlc e cl) (q := fun i => .int (i : Nat)) m
    (fun i en => ∃ o4 o5 o6 o7, en = pen cl n sg m w A h c (plc A h w c i) o4 o5 o6 o7) (pen cl n sg m w A h c (plc A h w c 0) none none none none) ⟨none, none, none, none, rfl⟩ (by
      rintro i en hi ⟨o4, o5, o6, o7, rfl⟩
      obtain ⟨o5', o6', o7', q⟩ := plc_step (e := e) (cl := cl) (n := n) (sg := sg) (h := h) (o5 := o5) (o6 := o6) (o7 := o7) z hc b b2 hi
      exact ⟨pen cl n sg m w A h c (plc A h w c i) (some (.int (i : Nat))) o5 o6 o7, rfl, _, q, _, o5', o6', o7', rfl⟩)
  show endR (s_placeE e cl [some (tbl cl n sg m w A h), some (.int (c : Nat)), none, none, none, none, none, none]) = _
  unfold s_placeE
  refine step_nx (en' := [some (tbl cl n sg m w A h), some (.int (c : Nat)), some .non, none, none, none, none, none]) rfl ?_
  refine step_nx (en' := pen cl n sg m w A h c (plc A h w c 0) none none none none) rfl ?_
  refine step_nx (sFor_of (iRn1_of (i := .int (m : Nat)) (eBi1_of (x := .lst (mtL m (w + 1) A)) fld2 (by rw [oLen_lst, mtL_len])) (oRng_nat (by omega))) lp) ?_
  rfl
end
end Co
end
noncomputable section
namespace Co
open PySem PySem.Spec PyProof.Rows L2 Pi
section
variable {n m w c p K : Nat} {A0 A : Mat} {h : Nat → Nat}
theorem Run.cons (b : Bst n m w A h c p) {A' : Nat → Mat} {h' : Nat → Nat → Nat} {c' p' : Nat → Nat} (r : Run n m w A' h' c' p' K) (e1 : A' 0 = tnb A p c) (e2 : h' 0 = upd1 h p c) :
    ∃ (A2 : Nat → Mat) (h2 : Nat → Nat → Nat) (c2 p2 : Nat → Nat), A2 0 = A ∧ h2 0 = h ∧ Run n m w A2 h2 c2 p2 (K + 1) := by
  refine ⟨fun k => match k with | 0 => A | k + 1 => A' k, fun k => match k with | 0 => h | k + 1 => h' k, fun k => match k with | 0 => c | k + 1 => c' k, fun k => match k with | 0 => p | k + 1 => p' k, rfl, rfl, ⟨fun k hk => ?_, fun k hk => ?_, fun k hk => ?_⟩⟩
  · cases k with
    | zero => exact b
    | succ k => exact r.st k (by omega)
  · cases k with
    | zero => exact e1
    | succ k => exact r.nA k (by omega)
  · cases k with
    | zero => exact e2
    | succ k => exact r.nh k (by omega)
theorem descend {I Q : Mat → (Nat → Nat) → Prop} (nw : n ≤ w) (hI : ∀ A h, I A h → Tb m w A0 A h ∧ ∀ i, i < m → 0 ≤ A i w)
    (step : ∀ A h, I A h → Q A h ∨ ∃ c p, Bst n m w A h c p ∧ I (tnb A p c) (upd1 h p c) ∧ (Q (tnb A p c) (upd1 h p c) → Q A h)) (i0 : I A h) : Q A h := by
  have all : ∀ K A h, I A h → Q A h ∨ ∃ (A2 : Nat → Mat) (h2 : Nat → Nat → Nat) (c2 p2 : Nat → Nat), A2 0 = A ∧ h2 0 = h ∧ Run n m w A2 h2 c2 p2 K := by
    intro K
    induction K with
    | zero => exact fun A h _ => .inr ⟨fun _ => A, fun _ => h, fun _ => 0, fun _ => 0, rfl, rfl, ⟨fun k hk => by omega, fun k hk => by omega, fun k hk => by omega⟩⟩
    | succ K ih =>
      intro A h i
      rcases step A h i with q | ⟨c, p, b, i', q⟩
      · exact .inl q
      · rcases ih _ _ i' with q' | ⟨A2, h2, c2, p2, e1, e2, r⟩
        · exact .inl (q q')
        · exact .inr (r.cons b e1 e2)
  rcases all (w ^ m) A h i0 with q | ⟨A2, h2, c2, p2, e1, e2, r⟩
  · exact q
  · obtain ⟨t, f⟩ := hI A h i0
    exact absurd r (Run.ends nw (by rw [e1, e2]; exact t) (by rw [e1]; exact f))
end
abbrev bLow (e c : Nat) : EvL := (lB (sAs 2 (eLc [4] (iRn (aCons (eFl (eFld c 0 (eVar 0))) aNil)) (set1 4) (tV (eCall f_less (aCons (eB2 oIx (eVar 1) (eVar 4)) (aCons (eC gN) aNil)))) (eFl (eVar 4))))
 (lIf (tV (eB2 oEq (eBi oLen (aCons (eVar 2) aNil)) (eC (.int 0))))
 (xPure (eTup (aCons (eVar 1) (aCons (eC .non) aNil))))
 (lB (sAs 3 (eFl (eMeth c (f_placeE e c) (eVar 0) (aCons (eB2 oIx (eVar 2) (eC (.int 0))) aNil))))
 (lIf (tV (eB2 (oIs false) (eVar 3) (eC .non)))
 (xPure (eTup (aCons (eVar 1) (aCons (eB2 oIx (eVar 2) (eC (.int 0))) aNil))))
 (lB (sYa 1 (eMethX c (f_turnE e c) 0 (aCons (eVar 3) (aCons (eB2 oIx (eVar 2) (eC (.int 0))) (aCons (eVar 1) aNil)))))
 lEnd)))))
def sB_down (e c : Nat) : EvS := (sWh (tV (eC (.bl true)))
 (sSeq (sAs 2 (eLc [4] (iRn (aCons (eFld c 0 (eVar 0)) aNil)) (set1 4) (tV (eCall f_less (aCons (eB2 oIx (eVar 1) (eVar 4)) (aCons (eC gN) aNil)))) (eFl (eVar 4))))
  (sSeq (sIf (tV (eB2 oEq (eBi oLen (aCons (eVar 2) aNil)) (eC (.int 0))))
 (sRet (eTup (aCons (eVar 1) (aCons (eC .non) aNil))))
 sNil)
  (sSeq (sAs 3 (eMeth c (f_placeE e c) (eVar 0) (aCons (eB2 oIx (eVar 2) (eC (.int 0))) aNil)))
  (sSeq (sIf (tV (eB2 (oIs false) (eVar 3) (eC .non)))
 (sRet (eTup (aCons (eVar 1) (aCons (eB2 oIx (eVar 2) (eC (.int 0))) aNil))))
 sNil)
  sStuck)))))
def s_downE (e c : Nat) : EvX := xLw (bLow e c)
def f_downE (e c : Nat) : List D → Rs D := runX 1 3 (sB_down e c) (s_downE e c)
section
variable {n m w s t sc tc cl p k e : Nat} {sg : List D} {A A0 : Mat} {h : Nat → Nat} {c : RowQ} {o2 o3 o4 : Option D}
abbrev den (cl n : Nat) (sg : List D) (m w : Nat) (A : Mat) (h : Nat → Nat) (o2 o3 o4 : Option D) : En := [some (tbl cl n sg m w A h), some (rwD (w + 1) (A m)), o2, o3, o4]
theorem fld0 {en : En} : eFld cl 0 (eVar 0) (some (tbl cl n sg m w A h) :: en) = .ok (.int (n : Nat)) := by simp [eFld, tbl]
theorem methT {fn : List D → Rs D} {ea : En → Rs (List D)} {ds : List D} {en : En} {r : Rs D} (ha : ea (some (tbl cl n sg m w A h) :: en) = .ok ds) (q : fn (tbl cl n sg m w A h :: ds) = r) : eMeth cl fn (eVar 0) ea (some (tbl cl n sg m w A h) :: en) = r := by
  subst q
  unfold tbl at ha ⊢
  simp [eMeth, ha]
theorem eMethX_of {c i : Nat} {l ds : List D} {fn : List D → Rs D} {ea : En → Rs (List D)} {en : En} {v d' : D} (hi : en[i]? = some (some (.obj c l))) (h : ea en = .ok ds) (q : fn (.obj c l :: ds) = .ok (.tup [v, d'])) : eMethX c fn i ea en = .ok (v, en.set i (some d')) := by
  unfold eMethX
  rw [hi]
  dsimp only
  rw [if_pos rfl, h, bnd_ok, q, bnd_ok]
theorem low_list (z : Rw s t (w + 1) (A m)) (nw : n ≤ w) (hn : n < 1000) (b2 : s < 300000) (b3 : t < 300000) : eLc [4] (iRn (aCons (eFl (eFld cl 0 (eVar 0))) aNil)) (set1 4) (tV (eCall f_less (aCons (eB2 oIx (eVar 1) (eVar 4)) (aCons (eC gN) aNil)))) (eFl (eVar 4)) (den cl n sg m w A h o2 o3 o4) = .ok (.lst (((List.range n).filter fun k => decide (A m k < 0)).map fun k : Nat => D.int k)) := by
  refine eLc_ap (ds := (List.range n).map fun k : Nat => D.int k) (iRn1_of (i := .int (n : Nat)) (eFl_of fld0 rfl) (oRng_nat (by omega))) ?_ ?_
  · exact evLc_flt (List.range n) fun k hk => ⟨_, rfl, tV_of (eCall2_of (y := rD 0) (eB2_of rfl rfl (oIx_rw (by have := List.mem_range.mp hk; omega))) rfl (lessE_eq (z.rb (by have := List.mem_range.mp hk; omega)) (n' := 1) (m' := 0) Rb_0 (by omega) (by omega) (by omega) (by omega))), rfl⟩
  · rw [List.length_map]
    have := List.length_filter_le (fun k => decide (A m k < 0)) (List.range n)
    rw [List.length_range] at this
    omega
theorem filt_nil {p : Nat → Bool} (e : (List.range n).filter p = []) : ∀ k, k < n → p k = false := fun k hk => by
  have := List.filter_eq_nil_iff.mp e k (List.mem_range.mpr hk)
  simpa using this
theorem filt_head {p : Nat → Bool} {x : Nat} {l : List Nat} (e : (List.range n).filter p = x :: l) : x < n ∧ p x = true ∧ ∀ j, j < x → p j = false := by
  have hx : x ∈ (List.range n).filter p := by rw [e]; exact List.mem_cons_self
  obtain ⟨h1, h2⟩ := List.mem_filter.mp hx
  refine ⟨List.mem_range.mp h1, h2, fun j hj => ?_⟩
  cases hp : p j with
  | false => rfl
  | true =>
    have hjm : j ∈ (List.range n).filter p := List.mem_filter.mpr ⟨List.mem_range.mpr (by have := List.mem_range.mp h1; omega), hp⟩
    have pw : ((List.range n).filter p).Pairwise (· < ·) := List.Pairwise.sublist List.filter_sublist List.pairwise_lt_range
    rw [e] at hjm pw
    rcases List.mem_cons.mp hjm with r | r
    · omega
    · have := (List.pairwise_cons.mp pw).1 j r
      omega
theorem low_none (z : Rw s t (w + 1) (A m)) (nw : n ≤ w) (hn : n < 1000) (b2 : s < 300000) (b3 : t < 300000) (q : (List.range n).filter (fun k => decide (A m k < 0)) = []) :
    bLow e cl (den cl n sg m w A h o2 o3 o4) = .ok (some (.tup [rwD (w + 1) (A m), .non]), den cl n sg m w A h (some (.lst [])) o3 o4) := by
  have e1 := low_list (cl := cl) (sg := sg) (h := h) (o2 := o2) (o3 := o3) (o4 := o4) z nw hn b2 b3
  rw [q] at e1
  show bnd _ _ = _
  rw [sAs_of (i := 2) e1, bnd_ok]
  show bnd (tV (eB2 oEq (eBi oLen (aCons (eVar 2) aNil)) (eC (.int 0))) (den cl n sg m w A h (some (.lst [])) o3 o4)) _ = _
  rw [tV_of (b := true) (eB2_of (eBi1_of rfl (oLen_lst _)) rfl (by rw [oEq_int]; rfl)), bnd_ok, if_pos rfl]
  rfl
theorem low_some {s2 t2 x : Nat} {l : List Nat} (z : ∀ i, i < m → Rw s t (w + 1) (A i)) (zm : Rw s2 t2 (w + 1) (A m)) (nw : n ≤ w) (hn : n < 1000) (hm : m < 1000) (b : t + s ≤ 8900) (b2 : s < 300000) (b3 : s2 < 300000) (b4 : t2 < 300000) (q : (List.range n).filter (fun k => decide (A m k < 0)) = x :: l) :
    bLow e cl (den cl n sg m w A h o2 o3 o4) = (match plc A h w x m with
      | none => .ok (some (.tup [rwD (w + 1) (A m), .int (x : Nat)]), den cl n sg m w A h (some (.lst ((x :: l).map fun k : Nat => D.int k))) (some .non) o4)
      | some p => lB (sYa 1 (eMethX cl (f_turnE e cl) 0 (aCons (eVar 3) (aCons (eB2 oIx (eVar 2) (eC (.int 0))) (aCons (eVar 1) aNil))))) lEnd (den cl n sg m w A h (some (.lst ((x :: l).map fun k : Nat => D.int k))) (some (.int (p : Nat))) o4)) := by
  have e1 := low_list (cl := cl) (sg := sg) (h := h) (o2 := o2) (o3 := o3) (o4 := o4) zm nw hn b3 b4
  rw [q] at e1
  obtain ⟨xn, _, _⟩ := filt_head q
  have e1' : sAs 2 (eLc [4] (iRn (aCons (eFl (eFld cl 0 (eVar 0))) aNil)) (set1 4) (tV (eCall f_less (aCons (eB2 oIx (eVar 1) (eVar 4)) (aCons (eC gN) aNil)))) (eFl (eVar 4))) (den cl n sg m w A h o2 o3 o4) = .ok (.nx (den cl n sg m w A h (some (.lst ((x :: l).map fun k : Nat => D.int k))) o3 o4)) := sAs_of e1
  show bnd _ _ = _
  rw [e1', bnd_ok]
  dsimp only
  show bnd (tV (eB2 oEq (eBi oLen (aCons (eVar 2) aNil)) (eC (.int 0))) (den cl n sg m w A h (some (.lst ((x :: l).map fun k : Nat => D.int k))) o3 o4)) _ = _
  rw [tV_of (b := false) (eB2_of (eBi1_of rfl (oLen_lst _)) rfl (by rw [oEq_int]; simp; omega)), bnd_ok, if_neg (by decide)]
  have x0 : eB2 oIx (eVar 2) (eC (.int 0)) (den cl n sg m w A h (some (.lst ((x :: l).map fun k : Nat => D.int k))) o3 o4) = .ok (.int (x : Nat)) := eB2_of rfl rfl (oIx_lst (l := (x :: l).map fun k : Nat => D.int k) (n := 0) (by simp))
  have pf : flat (plD (plc A h w x m)) = true := by cases plc A h w x m <;> rfl
  have e3 : sAs 3 (eFl (eMeth cl (f_placeE e cl) (eVar 0) (aCons (eB2 oIx (eVar 2) (eC (.int 0))) aNil))) (den cl n sg m w A h (some (.lst ((x :: l).map fun k : Nat => D.int k))) o3 o4) = .ok (.nx (den cl n sg m w A h (some (.lst ((x :: l).map fun k : Nat => D.int k))) (some (plD (plc A h w x m))) o4)) :=
    sAs_of (eFl_of (methT (aC_of x0 aNil_ap) (plcF_eq z (by omega) b b2 hm)) pf)
  unfold lB
  rw [e3, bnd_ok]
  dsimp only
  show bnd (tV (eB2 (oIs false) (eVar 3) (eC .non)) (den cl n sg m w A h (some (.lst ((x :: l).map fun k : Nat => D.int k))) (some (plD (plc A h w x m))) o4)) _ = _
  cases plc A h w x m with
  | none =>
    rw [tV_of (b := true) rfl, bnd_ok, if_pos rfl]
    have x1 : eB2 oIx (eVar 2) (eC (.int 0)) (den cl n sg m w A h (some (.lst ((x :: l).map fun k : Nat => D.int k))) (some .non) o4) = .ok (.int (x : Nat)) := eB2_of rfl rfl (oIx_lst (l := (x :: l).map fun k : Nat => D.int k) (n := 0) (by simp))
    show bnd (bnd (eTup (aCons (eVar 1) (aCons (eB2 oIx (eVar 2) (eC (.int 0))) aNil)) (den cl n sg m w A h (some (.lst ((x :: l).map fun k : Nat => D.int k))) (some .non) o4)) _) _ = _
    rw [eTup_of (aC_of rfl (aC_of x1 aNil_ap))]
    rfl
  | some p =>
    rw [tV_of (b := false) rfl, bnd_ok, if_neg (by decide)]
    rfl
def Dwn (e cl n : Nat) (sg : List D) (m w : Nat) (A0 : Mat) (J : Mat → (Nat → Nat) → Prop) (A : Mat) (h : Nat → Nat) : Prop := ∀ o2 o3 o4, ∃ (A' : Mat) (h' : Nat → Nat) (d : D) (en' : En), xLw (bLow e cl) (den cl n sg m w A h o2 o3 o4) = .ok (.tup [rwD (w + 1) (A' m), d], en') ∧ en'[0]? = some (some (tbl cl n sg m w A' h')) ∧
  Tb m w A0 A' h' ∧ (∀ i, i < m → 0 ≤ A' i w) ∧ J A' h' ∧ ((d = .non ∧ ∀ j, j < n → 0 ≤ A' m j) ∨ ∃ x : Nat, d = .int (x : Nat) ∧ x < n ∧ A' m x < 0 ∧ ∀ i, i < m → ¬ 0 < A' i x)
structure Fit (s t sc tc n m w : Nat) : Prop where
  nw : n ≤ w
  hn : n < 1000
  hm : m < 1000
  hw : w < 1000
  ts : t ≤ s
  b : 2 * tP s t m + sP s m + 2 ≤ 8900
  b1 : 2 * (tc + tP s t m) + sP s m + tP s t m ≤ 8900
  b2 : sP s m < 300000
  b3 : sc + sP s m + tP s t m + m < 300000
  b4 : tc + tP s t m < 300000
theorem down_loop {J : Mat → (Nat → Nat) → Prop} (hJ : ∀ A h c p, J A h → Bst n m w A h c p → J (tnb A p c) (upd1 h p c)) (bd : Fit s t sc tc n m w) (z0 : Ra s t m (w + 1) A0) (zc : Rw sc tc w c) (ec : A0 m = upd1 c w 0)
    (tb : Tb m w A0 A h) (f : ∀ i, i < m → 0 ≤ A i w) (j0 : J A h) : Dwn e cl n sg m w A0 J A h := by
  refine descend (A0 := A0) (I := fun A h => Tb m w A0 A h ∧ (∀ i, i < m → 0 ≤ A i w) ∧ J A h) bd.nw (fun A h i => ⟨i.1, i.2.1⟩) ?_ ⟨tb, f, j0⟩
  rintro A h ⟨tb, f, j⟩
  obtain ⟨nw, hn, hm, hw, ts, b, b1, b2, b3, b4⟩ := bd
  have b' : 2 * (tc + tP s t m) + sP s m ≤ 8900 := by omega
  have z := fun i (hi : i < m) => (tb.size ts z0).rw hi
  have zm := tb.csize ts z0 zc ec
  cases q : (List.range n).filter fun k => decide (A m k < 0) with
  | nil =>
    refine .inl fun o2 o3 o4 => ⟨A, h, .non, _, xLw_rt (low_none zm nw hn b3 b4 q), rfl, tb, f, j, .inl ⟨rfl, fun k hk => ?_⟩⟩
    have := of_decide_eq_false (filt_nil q k hk)
    grind
  | cons x l =>
    obtain ⟨xn, xp, xf⟩ := filt_head q
    have neg : A m x < 0 := of_decide_eq_true xp
    have st := fun o2 o3 o4 => low_some (e := e) (cl := cl) (sg := sg) (h := h) (o2 := o2) (o3 := o3) (o4 := o4) z zm nw hn hm (by omega) b2 b3 b4 q
    cases r : plc A h w x m with
    | none =>
      rw [r] at st
      exact .inl fun o2 o3 o4 => ⟨A, h, .int (x : Nat), _, xLw_rt (st o2 o3 o4), rfl, tb, f, j, .inr ⟨x, rfl, xn, neg, plc_none r⟩⟩
    | some p =>
      rw [r] at st
      obtain ⟨pm, pp, pl⟩ := plc_some r
      have bs : Bst n m w A h x p := ⟨xn, neg, fun j hj => by have := of_decide_eq_false (xf j hj); grind, pm, pp, pl⟩
      refine .inr ⟨x, p, bs, ⟨tb.turn pm (by omega) (by grind), bs.feas f, hJ A h x p j bs⟩, fun Q o2 o3 o4 => ?_⟩
      obtain ⟨A', h', d, en', g1, g2⟩ := Q (some (.lst ((x :: l).map fun k : Nat => D.int k))) (some (.int (p : Nat))) o4
      refine ⟨A', h', d, en', xLw_nx (en' := den cl n sg m w (tnb A p x) (upd1 h p x) (some (.lst ((x :: l).map fun k : Nat => D.int k))) (some (.int (p : Nat))) o4) ?_ g1, g2⟩
      rw [st o2 o3 o4]
      have x0 : eB2 oIx (eVar 2) (eC (.int 0)) (den cl n sg m w A h (some (.lst ((x :: l).map fun k : Nat => D.int k))) (some (.int (p : Nat))) o4) = .ok (.int (x : Nat)) := eB2_of rfl rfl (oIx_lst (l := (x :: l).map fun k : Nat => D.int k) (n := 0) (by simp))
      have tn := turn_eq (e := e) (cl := cl) (n := n) (sg := sg) (h := h) z zm pm (show x < w + 1 by omega) (by grind) (by omega) b' b2 b3 hm hw
      have e1 : sYa 1 (eMethX cl (f_turnE e cl) 0 (aCons (eVar 3) (aCons (eB2 oIx (eVar 2) (eC (.int 0))) (aCons (eVar 1) aNil)))) (den cl n sg m w A h (some (.lst ((x :: l).map fun k : Nat => D.int k))) (some (.int (p : Nat))) o4) = .ok (.nx (den cl n sg m w (tnb A p x) (upd1 h p x) (some (.lst ((x :: l).map fun k : Nat => D.int k))) (some (.int (p : Nat))) o4)) :=
        sYa_of (eMethX_of (i := 0) rfl (aC_of rfl (aC_of x0 (aC_of rfl aNil_ap))) tn)
      show lB _ _ _ = _
      unfold lB
      rw [e1, bnd_ok]
      rfl
theorem low_listB (z : Rw s t (w + 1) (A m)) (nw : n ≤ w) (hn : n < 1000) (b2 : s < 300000) (b3 : t < 300000) : eLc [4] (iRn (aCons (eFld cl 0 (eVar 0)) aNil)) (set1 4) (tV (eCall f_less (aCons (eB2 oIx (eVar 1) (eVar 4)) (aCons (eC gN) aNil)))) (eFl (eVar 4)) (den cl n sg m w A h o2 o3 o4) = .ok (.lst (((List.range n).filter fun k => decide (A m k < 0)).map fun k : Nat => D.int k)) := by
  refine eLc_ap (ds := (List.range n).map fun k : Nat => D.int k) (iRn1_of (i := .int (n : Nat)) fld0 (oRng_nat (by omega))) ?_ ?_
  · exact evLc_flt (List.range n) fun k hk => ⟨_, rfl, tV_of (eCall2_of (y := rD 0) (eB2_of rfl rfl (oIx_rw (by have := List.mem_range.mp hk; omega))) rfl (lessE_eq (z.rb (by have := List.mem_range.mp hk; omega)) (n' := 1) (m' := 0) Rb_0 (by omega) (by omega) (by omega) (by omega))), rfl⟩
  · rw [List.length_map]
    have := List.length_filter_le (fun k => decide (A m k < 0)) (List.range n)
    rw [List.length_range] at this
    omega
theorem downB_ok {s2 t2 : Nat} (z : ∀ i, i < m → Rw s t (w + 1) (A i)) (zm : Rw s2 t2 (w + 1) (A m)) (nw : n ≤ w) (hn : n < 1000) (hm : m < 1000) (b : t + s ≤ 8900) (b2 : s < 300000) (b3 : s2 < 300000) (b4 : t2 < 300000) : sB_down e cl (den cl n sg m w A h none none none) = .error .stuck ∨ ∃ fl, sB_down e cl (den cl n sg m w A h none none none) = .ok fl := by
  have e1 := low_listB (cl := cl) (sg := sg) (h := h) (o2 := none) (o3 := none) (o4 := none) zm nw hn b3 b4
  unfold sB_down
  rw [sWh_eq, tV_of (b := true) rfl, bnd_ok, if_pos rfl]
  cases q : (List.range n).filter fun k => decide (A m k < 0) with
  | nil =>
    rw [q] at e1
    have e2 : sAs 2 (eLc [4] (iRn (aCons (eFld cl 0 (eVar 0)) aNil)) (set1 4) (tV (eCall f_less (aCons (eB2 oIx (eVar 1) (eVar 4)) (aCons (eC gN) aNil)))) (eFl (eVar 4))) (den cl n sg m w A h none none none) = .ok (.nx (den cl n sg m w A h (some (.lst [])) none none)) := sAs_of e1
    rw [seq_nx e2, sSeq_ap, sIf_tt (tV_of (b := true) (eB2_of (eBi1_of rfl (oLen_lst _)) rfl (by rw [oEq_int]; rfl))) rfl]
    exact .inr ⟨_, rfl⟩
  | cons x l =>
    rw [q] at e1
    obtain ⟨xn, _, _⟩ := filt_head q
    have e2 : sAs 2 (eLc [4] (iRn (aCons (eFld cl 0 (eVar 0)) aNil)) (set1 4) (tV (eCall f_less (aCons (eB2 oIx (eVar 1) (eVar 4)) (aCons (eC gN) aNil)))) (eFl (eVar 4))) (den cl n sg m w A h none none none) = .ok (.nx (den cl n sg m w A h (some (.lst ((x :: l).map fun k : Nat => D.int k))) none none)) := sAs_of e1
    have x0 : ∀ o3, eB2 oIx (eVar 2) (eC (.int 0)) (den cl n sg m w A h (some (.lst ((x :: l).map fun k : Nat => D.int k))) o3 none) = .ok (.int (x : Nat)) := fun o3 => eB2_of rfl rfl (oIx_lst (l := (x :: l).map fun k : Nat => D.int k) (n := 0) (by simp))
    have e3 : sAs 3 (eMeth cl (f_placeE e cl) (eVar 0) (aCons (eB2 oIx (eVar 2) (eC (.int 0))) aNil)) (den cl n sg m w A h (some (.lst ((x :: l).map fun k : Nat => D.int k))) none none) = .ok (.nx (den cl n sg m w A h (some (.lst ((x :: l).map fun k : Nat => D.int k))) (some (plD (plc A h w x m))) none)) :=
      sAs_of (methT (aC_of (x0 none) aNil_ap) (plcF_eq z (by omega) b b2 hm))
    rw [seq_nx e2, seq_nx (sIf_ff (tV_of (b := false) (eB2_of (eBi1_of rfl (oLen_lst _)) rfl (by rw [oEq_int]; simp; omega)))), seq_nx e3]
    cases plc A h w x m with
    | none =>
      rw [sSeq_ap, sIf_tt (tV_of (b := true) rfl) (show sRet (eTup (aCons (eVar 1) (aCons (eB2 oIx (eVar 2) (eC (.int 0))) aNil))) _ = .ok (.rt (.tup [rwD (w + 1) (A m), .int (x : Nat)])) from by rw [sRet_ap, eTup_of (aC_of rfl (aC_of (x0 _) aNil_ap))]; rfl)]
      exact .inr ⟨_, rfl⟩
    | some p =>
      rw [seq_nx (sIf_ff (tV_of (b := false) rfl))]
      exact .inl rfl
theorem down_eq {J : Mat → (Nat → Nat) → Prop} (hJ : ∀ A h c p, J A h → Bst n m w A h c p → J (tnb A p c) (upd1 h p c)) (bd : Fit s t sc tc n m w) (z0 : Ra s t m (w + 1) A0) (zc : Rw sc tc w c) (ec : A0 m = upd1 c w 0)
    (tb : Tb m w A0 A h) (f : ∀ i, i < m → 0 ≤ A i w) (j0 : J A h) : ∃ (A' : Mat) (h' : Nat → Nat) (d : D), f_downE e cl [tbl cl n sg m w A h, rwD (w + 1) (A m)] = .ok (.tup [.tup [rwD (w + 1) (A' m), d], tbl cl n sg m w A' h']) ∧
  Tb m w A0 A' h' ∧ (∀ i, i < m → 0 ≤ A' i w) ∧ J A' h' ∧ ((d = .non ∧ ∀ j, j < n → 0 ≤ A' m j) ∨ ∃ x : Nat, d = .int (x : Nat) ∧ x < n ∧ A' m x < 0 ∧ ∀ i, i < m → ¬ 0 < A' i x) := by
  obtain ⟨A', h', d, en', q1, q2, q3⟩ := down_loop (e := e) (cl := cl) (sg := sg) hJ bd z0 zc ec tb f j0 none none none
  refine ⟨A', h', d, runX_of (p := (.tup [rwD (w + 1) (A' m), d], en')) (news := [tbl cl n sg m w A' h']) (downB_ok (fun i hi => (tb.size bd.ts z0).rw hi) (tb.csize bd.ts z0 zc ec) bd.nw bd.hn bd.hm (by have := bd.b; omega) bd.b2 bd.b3 bd.b4) q1 ?_, q3⟩
  cases en' with
  | nil => cases q2
  | cons o r =>
    have : o = some (tbl cl n sg m w A' h') := by simpa using q2
    subst this
    rfl
end
end Co
end
noncomputable section
namespace Co
open PySem PySem.Spec PyProof.Rows L2 Pi
def sB_crowE (e c : Nat) : EvS := (sSeq (sAs 2 (eB2 oAdd (eVar 1) (eLst (aCons (eC gN) aNil))))
  (sSeq (sFor (iZp (aCons (eFld c 3 (eVar 0)) (aCons (eFld c 2 (eVar 0)) aNil))) (setT [3, 4])
 (sAs 2 (eCall (f_lrowE e) (aCons (eVar 2) (aCons (eVar 4) (aCons (eB2 oIx (eVar 1) (eVar 3)) aNil))))))
  (sRet (eVar 2))))
def s_crowE (e c : Nat) : EvX := (sB (sAs 2 (eB2 oAdd (eVar 1) (eLst (aCons (eC gN) aNil))))
 (sB (sForZF 0 c 3 2 (setT [3, 4])
 (sAs 2 (eCall (f_lrowE e) (aCons (eVar 2) (aCons (eVar 4) (aCons (eB2 oIx (eVar 1) (eVar 3)) aNil))))))
 (xPure (eVar 2))))
def f_crowE (e c : Nat) : List D → Rs D := runX 1 3 (sB_crowE e c) (s_crowE e c)
def f_unitR : List D → Rs D := runF 2 (sSeq (sAs 2 (eLc [3] (iRn (aCons (eVar 0) aNil)) (set1 3) (fun _ => .ok true) (eFl (eC gN))))
  (sSeq (sSub 2 (eVar 1) (eFl (eC gO)))
  (sRet (eVar 2))))
def s_slnE (e c : Nat) : EvS := (sSeq (sAs 1 (eLc [4] (iRn (aCons (eFld c 0 (eVar 0)) aNil)) (set1 4) (fun _ => .ok true) (eFl (eC gN))))
  (sSeq (sFor (iZp (aCons (eFld c 3 (eVar 0)) (aCons (eFld c 2 (eVar 0)) aNil))) (setT [2, 3])
 (sIf (tV (eB2 oLt (eVar 2) (eFld c 0 (eVar 0))))
 (sSub 1 (eVar 2) (eFl (eB2 oIx (eVar 3) (eU1 oNeg (eC (.int 1))))))
 sNil))
  (sRet (eVar 1))))
def f_slnE (e c : Nat) : List D → Rs D := runF 4 (s_slnE e c)
def s_wayE (e c : Nat) : EvS := (sSeq (sAs 2 (eCall f_unitR (aCons (eFld c 0 (eVar 0)) (aCons (eVar 1) aNil))))
  (sSeq (sFor (iZp (aCons (eFld c 3 (eVar 0)) (aCons (eFld c 2 (eVar 0)) aNil))) (setT [3, 4])
 (sIf (tV (eB2 oLt (eVar 3) (eFld c 0 (eVar 0))))
 (sSub 2 (eVar 3) (eCall (f_restE e) (aCons (eC gN) (aCons (eB2 oIx (eVar 4) (eVar 1)) aNil))))
 sNil))
  (sRet (eVar 2))))
def f_wayE (e c : Nat) : List D → Rs D := runF 3 (s_wayE e c)
def s_prcE (e c : Nat) : EvS := (sSeq (sAs 3 (eLst aNil))
  (sSeq (sFor (iRn (aCons (eBi oLen (aCons (eFld c 2 (eVar 0)) aNil)) aNil)) (set1 4)
 (sApp 3 (eCall (f_prodE e) (aCons (eCall (f_restE e) (aCons (eVar 2) (aCons (eB2 oIx (eVar 1) (eFl (eB2 oAdd (eFld c 0 (eVar 0)) (eVar 4)))) aNil))) (aCons (eB2 oIx (eFld c 1 (eVar 0)) (eVar 4)) aNil)))))
  (sRet (eVar 3))))
def f_prcE (e c : Nat) : List D → Rs D := runF 2 (s_prcE e c)
abbrev cen5 (cl n : Nat) (sg : List D) (m w : Nat) (A : Mat) (h : Nat → Nat) (c : RowQ) (o2 o3 o4 : Option D) : En := [some (tbl cl n sg m w A h), some (rwD w c), o2, o3, o4]
abbrev bCst (e : Nat) : EvS := (sAs 2 (eCall (f_lrowE e) (aCons (eVar 2) (aCons (eVar 4) (aCons (eB2 oIx (eVar 1) (eVar 3)) aNil)))))
section
variable {n m w s t sc tc cl k e : Nat} {sg : List D} {A A0 : Mat} {h : Nat → Nat} {c : RowQ} {o2 o3 o4 : Option D}
theorem crow_loop (z : Ra s t m (w + 1) A) (hl : ∀ i, i < m → h i < w) (hc : Rw sc tc w c) (b : 2 * (tc + t) + t ≤ 8900) (b1 : sc + s + t + m < 300000) (b2 : s < 300000) (hw : w < 1000) :
    ∃ o3 o4, evFor (setT [3, 4]) (bCst e) (zipD (hdL m h) (mtL m (w + 1) A)) (cen5 cl n sg m w A h c (some (rwD (w + 1) (upd1 c w 0))) none none) = .ok (.nx (cen5 cl n sg m w A h c (some (rwD (w + 1) (crw A h c w m))) o3 o4)) := by
  unfold hdL mtL
  rw [zip_maps]
  obtain ⟨en', lp, o3, o4, rfl⟩ := evFor_rng (set := setT [3, 4]) (body := bCst e) (q := fun i => .tup [.int (h i : Nat), rwD (w + 1) (A i)]) m
    (fun i en => ∃ o3 o4, en = cen5 cl n sg m w A h c (some (rwD (w + 1) (crw A h c w i))) o3 o4) (cen5 cl n sg m w A h c (some (rwD (w + 1) (upd1 c w 0))) none none) ⟨none, none, rfl⟩ (by
      rintro i en hi ⟨o3, o4, rfl⟩
      have r := crw_rw z hl hc i (by omega)
      refine ⟨cen5 cl n sg m w A h c (some (rwD (w + 1) (crw A h c w i))) (some (.int (h i : Nat))) (some (rwD (w + 1) (A i))), rfl, _, sAs_of (eCall3_of rfl rfl (eB2_of rfl rfl (oIx_rw (hl i hi))) (lrowE_eq (fun j hj => r.rb hj) (fun j hj => (z.rw hi).rb hj) ((hc.rb (hl i hi)).mono (show sc ≤ sc + s + t + i by omega) (show tc ≤ tc + t by omega)) (by omega) (by omega) (by omega) (by omega))), some (.int (h i : Nat)), some (rwD (w + 1) (A i)), rfl⟩)
  exact ⟨o3, o4, lp⟩
theorem crow_eq (z : Ra s t m (w + 1) A) (hl : ∀ i, i < m → h i < w) (hc : Rw sc tc w c) (b : 2 * (tc + t) + t ≤ 8900) (b1 : sc + s + t + m < 300000) (b2 : s < 300000) (hw : w < 1000) :
    f_crowE e cl [tbl cl n sg m w A h, rwD w c] = .ok (.tup [rwD (w + 1) (crw A h c w m), tbl cl n sg m w A h]) := by
  obtain ⟨o3, o4, lp⟩ := crow_loop (e := e) (cl := cl) (n := n) (sg := sg) z hl hc b b1 b2 hw
  have e1 : sAs 2 (eB2 oAdd (eVar 1) (eLst (aCons (eC gN) aNil))) (cen5 cl n sg m w A h c none none none) = .ok (.nx (cen5 cl n sg m w A h c (some (rwD (w + 1) (upd1 c w 0))) none none)) := by
    have : oAdd (rwD w c) (.lst [rD 0]) = some (rwD (w + 1) (upd1 c w 0)) := by
      unfold rwD
      rw [oAdd_lst (by rw [rwL_len]; simp; omega), rwL_snoc]
    exact sAs_of (eB2_of rfl rfl this)
  have e2 : sForZF 0 cl 3 2 (setT [3, 4]) (bCst e) (cen5 cl n sg m w A h c (some (rwD (w + 1) (upd1 c w 0))) none none) = .ok (.nx (cen5 cl n sg m w A h c (some (rwD (w + 1) (crw A h c w m))) o3 o4)) := by
    show (if cl = cl then _ else _) = _
    rw [if_pos rfl]
    show bnd (noR (evFor (setT [3, 4]) (bCst e) (zipD (hdL m h) (mtL m (w + 1) A)) (cen5 cl n sg m w A h c (some (rwD (w + 1) (upd1 c w 0))) none none))) _ = _
    rw [lp]
    rfl
  refine runX_of (p := (rwD (w + 1) (crw A h c w m), cen5 cl n sg m w A h c (some (rwD (w + 1) (crw A h c w m))) o3 o4)) (news := [tbl cl n sg m w A h]) (.inr ⟨.rt (rwD (w + 1) (crw A h c w m)), ?_⟩) ?_ rfl
  · show sB_crowE e cl (cen5 cl n sg m w A h c none none none) = _
    unfold sB_crowE
    rw [seq_nx e1, seq_nx (sFor_of (iZp_of fld3 fld2) lp)]
    rfl
  · show s_crowE e cl (cen5 cl n sg m w A h c none none none) = _
    unfold s_crowE
    rw [sB_of e1 rfl, sB_of e2 rfl]
    rfl
end
end Co
end
noncomputable section
namespace Co
open PySem PySem.Spec PyProof.Rows L2 Pi
theorem rmap_snoc {α : Type} (k : Nat) (f : Nat → α) : (List.range k).map f ++ [f k] = (List.range (k + 1)).map f := by rw [List.range_succ, List.map_append]; rfl
theorem rwL_split (n m : Nat) (a : RowQ) : rwL (n + m) a = rwL n a ++ rwL m (fun j => a (n + j)) := by
  unfold rwL
  rw [List.range_add, List.map_append, List.map_map]
  rfl
theorem rwL_app (n m : Nat) (a u : RowQ) : rwL n a ++ rwL m u = rwL (n + m) fun j => if j < n then a j else u (j - n) := by
  rw [rwL_split]
  congr 1
  · exact rwL_congr fun j hj => by rw [if_pos hj]
  · exact rwL_congr fun j hj => by show u j = if n + j < n then _ else _; rw [if_neg (by omega), show n + j - n = j by omega]
theorem rwL_take (n m : Nat) (a : RowQ) : (rwL (n + m) a).take n = rwL n a := by rw [rwL_split, List.take_left' (rwL_len n a)]
theorem rwL_drop (n m : Nat) (a : RowQ) : (rwL (n + m) a).drop n = rwL m fun j => a (n + j) := by rw [rwL_split, List.drop_left' (rwL_len n a)]
theorem unitR_eq {N p : Nat} (hp : p < N) (hN : N < 1000000) : f_unitR [.int (N : Nat), .int (p : Nat)] = .ok (rwD N (upd1 (fun _ => 0) p 1)) := by
  have e1 : sAs 2 (eLc [3] (iRn (aCons (eVar 0) aNil)) (set1 3) (fun _ => .ok true) (eFl (eC gN))) [some (.int (N : Nat)), some (.int (p : Nat)), none, none] = .ok (.nx [some (.int (N : Nat)), some (.int (p : Nat)), some (rwD N fun _ => 0), none]) :=
    sAs_of (eLc_ap (l := rwL N fun _ => 0) (iRn1_of rfl (oRng_nat hN)) (evLc_map (q := fun k : Nat => D.int k) (r := fun _ => rD 0) (List.range N) fun i hi => ⟨_, rfl, rfl⟩) (by rw [rwL_len]; exact hN))
  have e2 : sSub 2 (eVar 1) (eFl (eC gO)) [some (.int (N : Nat)), some (.int (p : Nat)), some (rwD N fun _ => 0), none] = .ok (.nx [some (.int (N : Nat)), some (.int (p : Nat)), some (rwD N (upd1 (fun _ => 0) p 1)), none]) := by
    rw [sSub_nat (i := 2) (l := rwL N fun _ => 0) (n := p) (d := rD 1) rfl rfl rfl (ixN_nat (by rw [rwL_len]; exact hp)), rwL_set]
    rfl
  show endR (sSeq (sAs 2 (eLc [3] (iRn (aCons (eVar 0) aNil)) (set1 3) (fun _ => .ok true) (eFl (eC gN)))) (sSeq (sSub 2 (eVar 1) (eFl (eC gO))) (sRet (eVar 2))) [some (.int (N : Nat)), some (.int (p : Nat)), none, none]) = _
  rw [seq_nx e1, seq_nx e2]
  rfl
theorem sAppF_of {i c j : Nat} {ev : EvE} {en : En} {l m : List D} {d : D} (h : en[i]? = some (some (.obj c l))) (hl : l[j]? = some (.lst m)) (hm : m.length < 1000000) (he : ev en = .ok d) : sAppF i c j ev en = .ok (.nx (en.set i (some (.obj c (l.set j (.lst (m ++ [d]))))))) := by
  unfold sAppF
  rw [h]
  dsimp only
  rw [if_pos rfl, hl]
  dsimp only
  rw [if_pos (by rw [sizeLine_eq]; omega), he]
  rfl
def sgL (m : Nat) (b : RowQ) : List D := (List.range m).map fun i => rD (sgn1 b i)
theorem sgL_len (m : Nat) (b : RowQ) : (sgL m b).length = m := by unfold sgL; rw [List.length_map, List.length_range]
abbrev bIni (e c : Nat) : EvS := (sSeq (sAs 5 (eFl (eC gO)))
  (sSeq (sIf (tV (eCall f_less (aCons (eB2 oIx (eVar 2) (eVar 4)) (aCons (eC gN) aNil))))
 (sAs 5 (eTup (aCons (eU1 oNeg (eC (.int 1))) (aCons (eC (.int 1)) aNil))))
 sNil)
  (sSeq (sAppF 0 c 1 (eFl (eVar 5)))
  (sSeq (sAs 6 (eCall (f_trowE e) (aCons (eB2 oAdd (eB2 oIx (eVar 1) (eVar 4)) (eLst (aCons (eB2 oIx (eVar 2) (eVar 4)) aNil))) (aCons (eVar 5) aNil))))
  (sSeq (sAppF 0 c 2 (eB2 oAdd (eB2 oAdd (eSl (eVar 6) oNo (oYes (eVar 3))) (eCall f_unitR (aCons (eBi oLen (aCons (eVar 1) aNil)) (aCons (eVar 4) aNil)))) (eSl (eVar 6) (oYes (eVar 3)) oNo)))
  (sAppF 0 c 3 (eFl (eB2 oAdd (eVar 3) (eVar 4)))))))))
def s_initE (e c : Nat) : EvX := (sB (sSetM 0 c 0 .s (eFl (eVar 3)))
 (sB (sSetM 0 c 1 (.o .s) (eLst aNil))
 (sB (sSetM 0 c 2 (.o .s) (eLst aNil))
 (sB (sSetM 0 c 3 (.o .s) (eLst aNil))
 (sB (sFor (iRn (aCons (eBi oLen (aCons (eVar 1) aNil)) aNil)) (set1 4)
 (bIni e c))
 (fun en => .ok (.non, en)))))))
def f_initE (e c : Nat) : List D → Rs D := runX 1 3 sStuck (s_initE e c)
section
variable {n m w s t sc tc cl k e : Nat} {sg : List D} {A A0 R : Mat} {h : Nat → Nat} {c b : RowQ} {d : Rat} {o2 o3 o4 o5 o6 : Option D}
abbrev ien (cl n m : Nat) (R : Mat) (b : RowQ) (i : Nat) (o4 o5 o6 : Option D) : En := [some (.obj cl [.int (n : Nat), .lst (sgL i b), .lst (mtL i (n + m + 1) (stA n m R b (fun _ => 0) 0)), .lst (hdL i fun i => n + i)]), some (mtD m n R), some (rwD m b), some (.int (n : Nat)), o4, o5, o6]
theorem sgn1_rb (b : RowQ) (i : Nat) : Rb 1 1 (sgn1 b i) := by
  unfold sgn1
  split
  · exact ⟨by unfold B; decide, by unfold B; decide⟩
  · exact Rb_1
theorem ini_row {i : Nat} (hi : i < m) : (rwL (n + 1) fun j => aug n R b i j * sgn1 b i).take n ++ rwL m (upd1 (fun _ => 0) i 1) ++ (rwL (n + 1) fun j => aug n R b i j * sgn1 b i).drop n = rwL (n + m + 1) (stA n m R b c d i) := by
  rw [rwL_take, rwL_drop, rwL_app, rwL_app]
  refine rwL_congr fun j hj => ?_
  by_cases h1 : j < n
  · rw [if_pos (by omega), if_pos h1, stA_r hi h1]
    unfold aug upd1
    rw [if_neg (by omega)]
  · by_cases h2 : j < n + m
    · rw [if_pos h2, if_neg h1]
      obtain ⟨k, rfl⟩ : ∃ k, j = n + k := ⟨j - n, by omega⟩
      rw [stA_u hi (by omega), show n + k - n = k by omega]
      rfl
    · rw [if_neg h2]
      have : j = n + m := by omega
      subst this
      rw [stA_w hi, show n + (n + m - (n + m)) = n by omega, aug_n]
theorem ini_step (ha : ∀ i, i < m → ∀ j, j < n + 1 → Rb s t (aug n R b i j)) (bt : t + 1 ≤ 8900) (bs : s < 300000) (hn : n < 1000) (hm : m < 1000) {i : Nat} (hi : i < m) :
    ∃ o5' o6', bIni e cl (ien cl n m R b i (some (.int (i : Nat))) o5 o6) = .ok (.nx (ien cl n m R b (i + 1) (some (.int (i : Nat))) o5' o6')) := by
  refine ⟨some (rD (sgn1 b i)), some (rwD (n + 1) fun j => aug n R b i j * sgn1 b i), ?_⟩
  have bi : b i = aug n R b i n := by unfold aug upd1; rw [if_pos rfl]
  have e5 : sAs 5 (eFl (eC gO)) (ien cl n m R b i (some (.int (i : Nat))) o5 o6) = .ok (.nx (ien cl n m R b i (some (.int (i : Nat))) (some (rD 1)) o6)) := sAs_of rfl
  have tt : tV (eCall f_less (aCons (eB2 oIx (eVar 2) (eVar 4)) (aCons (eC gN) aNil))) (ien cl n m R b i (some (.int (i : Nat))) (some (rD 1)) o6) = .ok (decide (b i < 0)) :=
    tV_of (eCall2_of (y := rD 0) (eB2_of rfl rfl (oIx_rw hi)) rfl (lessE_eq (bi ▸ ha i hi n (by omega)) (n' := 1) (m' := 0) Rb_0 (by omega) (by omega) (by omega) (by omega)))
  have e5' : sIf (tV (eCall f_less (aCons (eB2 oIx (eVar 2) (eVar 4)) (aCons (eC gN) aNil)))) (sAs 5 (eTup (aCons (eU1 oNeg (eC (.int 1))) (aCons (eC (.int 1)) aNil)))) sNil (ien cl n m R b i (some (.int (i : Nat))) (some (rD 1)) o6) = .ok (.nx (ien cl n m R b i (some (.int (i : Nat))) (some (rD (sgn1 b i))) o6)) := by
    by_cases z : b i < 0
    · rw [decide_eq_true z] at tt
      refine sIf_tt tt ?_
      have : sgn1 b i = -1 := by unfold sgn1; rw [if_pos z]
      rw [this]
      exact sAs_of rfl
    · rw [decide_eq_false z] at tt
      have : sgn1 b i = 1 := by unfold sgn1; rw [if_neg z]
      rw [this]
      exact sIf_ff tt
  have a1 : sAppF 0 cl 1 (eFl (eVar 5)) (ien cl n m R b i (some (.int (i : Nat))) (some (rD (sgn1 b i))) o6) = .ok (.nx [some (.obj cl [.int (n : Nat), .lst (sgL (i + 1) b), .lst (mtL i (n + m + 1) (stA n m R b (fun _ => 0) 0)), .lst (hdL i fun i => n + i)]), some (mtD m n R), some (rwD m b), some (.int (n : Nat)), some (.int (i : Nat)), some (rD (sgn1 b i)), o6]) := by
    rw [sAppF_of (i := 0) (j := 1) (m := sgL i b) rfl rfl (by rw [sgL_len]; omega) (eFl_of rfl (flat_rD _))]
    unfold sgL
    rw [rmap_snoc i fun i => rD (sgn1 b i)]
    rfl
  have a6 : sAs 6 (eCall (f_trowE e) (aCons (eB2 oAdd (eB2 oIx (eVar 1) (eVar 4)) (eLst (aCons (eB2 oIx (eVar 2) (eVar 4)) aNil))) (aCons (eVar 5) aNil))) [some (.obj cl [.int (n : Nat), .lst (sgL (i + 1) b), .lst (mtL i (n + m + 1) (stA n m R b (fun _ => 0) 0)), .lst (hdL i fun i => n + i)]), some (mtD m n R), some (rwD m b), some (.int (n : Nat)), some (.int (i : Nat)), some (rD (sgn1 b i)), o6] = .ok (.nx [some (.obj cl [.int (n : Nat), .lst (sgL (i + 1) b), .lst (mtL i (n + m + 1) (stA n m R b (fun _ => 0) 0)), .lst (hdL i fun i => n + i)]), some (mtD m n R), some (rwD m b), some (.int (n : Nat)), some (.int (i : Nat)), some (rD (sgn1 b i)), some (rwD (n + 1) fun j => aug n R b i j * sgn1 b i)]) := by
    refine sAs_of (eCall2_of (x := rwD (n + 1) (aug n R b i)) (eB2_of (x := rwD n (R i)) (y := .lst [rD (b i)]) (eB2_of rfl rfl (oIx_mt hi)) (by rw [eLst_ap, aC_of (eB2_of rfl rfl (oIx_rw hi)) aNil_ap]; rfl) ?_) rfl (trowE_eq (ha i hi) (sgn1_rb b i) (by omega) (by omega) (by omega) (by omega)))
    unfold rwD
    rw [oAdd_lst (by rw [rwL_len]; simp; omega), rwL_snoc]
    rfl
  have a2 : sAppF 0 cl 2 (eB2 oAdd (eB2 oAdd (eSl (eVar 6) oNo (oYes (eVar 3))) (eCall f_unitR (aCons (eBi oLen (aCons (eVar 1) aNil)) (aCons (eVar 4) aNil)))) (eSl (eVar 6) (oYes (eVar 3)) oNo)) [some (.obj cl [.int (n : Nat), .lst (sgL (i + 1) b), .lst (mtL i (n + m + 1) (stA n m R b (fun _ => 0) 0)), .lst (hdL i fun i => n + i)]), some (mtD m n R), some (rwD m b), some (.int (n : Nat)), some (.int (i : Nat)), some (rD (sgn1 b i)), some (rwD (n + 1) fun j => aug n R b i j * sgn1 b i)] = .ok (.nx [some (.obj cl [.int (n : Nat), .lst (sgL (i + 1) b), .lst (mtL (i + 1) (n + m + 1) (stA n m R b (fun _ => 0) 0)), .lst (hdL i fun i => n + i)]), some (mtD m n R), some (rwD m b), some (.int (n : Nat)), some (.int (i : Nat)), some (rD (sgn1 b i)), some (rwD (n + 1) fun j => aug n R b i j * sgn1 b i)]) := by
    have v : eB2 oAdd (eB2 oAdd (eSl (eVar 6) oNo (oYes (eVar 3))) (eCall f_unitR (aCons (eBi oLen (aCons (eVar 1) aNil)) (aCons (eVar 4) aNil)))) (eSl (eVar 6) (oYes (eVar 3)) oNo) [some (.obj cl [.int (n : Nat), .lst (sgL (i + 1) b), .lst (mtL i (n + m + 1) (stA n m R b (fun _ => 0) 0)), .lst (hdL i fun i => n + i)]), some (mtD m n R), some (rwD m b), some (.int (n : Nat)), some (.int (i : Nat)), some (rD (sgn1 b i)), some (rwD (n + 1) fun j => aug n R b i j * sgn1 b i)] = .ok (rwD (n + m + 1) (stA n m R b (fun _ => 0) 0 i)) := by
      refine eB2_of (eB2_of (eSl_to (l := rwL (n + 1) fun j => aug n R b i j * sgn1 b i) (i := n) rfl rfl) (eCall2_of (x := .int (m : Nat)) (eBi1_of (x := .lst (mtL m n R)) rfl (by rw [oLen_lst, mtL_len])) rfl (unitR_eq hi (by omega))) (oAdd_lst ?_)) (eSl_from (l := rwL (n + 1) fun j => aug n R b i j * sgn1 b i) (i := n) rfl rfl) ?_
      · rw [rwL_take, rwL_len, rwL_len]; omega
      · rw [oAdd_lst (by rw [rwL_take, rwL_drop, List.length_append, rwL_len, rwL_len, rwL_len]; omega), ini_row hi]
        rfl
    rw [sAppF_of (i := 0) (j := 2) (m := mtL i (n + m + 1) (stA n m R b (fun _ => 0) 0)) rfl rfl (by rw [mtL_len]; omega) v]
    unfold mtL
    rw [rmap_snoc i fun i => rwD (n + m + 1) (stA n m R b (fun _ => 0) 0 i)]
    rfl
  have a3 : sAppF 0 cl 3 (eFl (eB2 oAdd (eVar 3) (eVar 4))) [some (.obj cl [.int (n : Nat), .lst (sgL (i + 1) b), .lst (mtL (i + 1) (n + m + 1) (stA n m R b (fun _ => 0) 0)), .lst (hdL i fun i => n + i)]), some (mtD m n R), some (rwD m b), some (.int (n : Nat)), some (.int (i : Nat)), some (rD (sgn1 b i)), some (rwD (n + 1) fun j => aug n R b i j * sgn1 b i)] = .ok (.nx (ien cl n m R b (i + 1) (some (.int (i : Nat))) (some (rD (sgn1 b i))) (some (rwD (n + 1) fun j => aug n R b i j * sgn1 b i)))) := by
    rw [sAppF_of (i := 0) (j := 3) (m := hdL i fun i => n + i) (d := .int ((n + i : Nat) : Int)) rfl rfl (by rw [hdL_len]; omega) (eFl_of (eB2_of rfl rfl (by rw [oAdd_int]; rfl)) rfl)]
    unfold hdL
    rw [rmap_snoc i fun i => D.int ((n + i : Nat) : Int)]
    rfl
  show sSeq _ _ _ = _
  rw [seq_nx e5, seq_nx e5', seq_nx a1, seq_nx a6, seq_nx a2, a3]
theorem initE_eq (ha : ∀ i, i < m → ∀ j, j < n + 1 → Rb s t (aug n R b i j)) (bt : t + 1 ≤ 8900) (bs : s < 300000) (hn : n < 1000) (hm : m < 1000) :
    f_initE e cl [.obj cl [], mtD m n R, rwD m b, .int (n : Nat)] = .ok (.tup [.non, tbl cl n (sgL m b) m (n + m) (stA n m R b (fun _ => 0) 0) fun i => n + i]) := by
  obtain ⟨en', lp, o4, o5, o6, rfl⟩ := evFor_rng (set := set1 4) (body := bIni e cl) (q := fun i => .int (i : Nat)) m
    (fun i en => ∃ o4 o5 o6, en = ien cl n m R b i o4 o5 o6) (ien cl n m R b 0 none none none) ⟨none, none, none, rfl⟩ (by
      rintro i en hi ⟨o4, o5, o6, rfl⟩
      obtain ⟨o5', o6', q⟩ := ini_step (e := e) (cl := cl) (o5 := o5) (o6 := o6) ha bt bs hn hm hi
      exact ⟨ien cl n m R b i (some (.int (i : Nat))) o5 o6, rfl, _, q, _, o5', o6', rfl⟩)
  refine runX_of (p := (.non, ien cl n m R b m o4 o5 o6)) (news := [tbl cl n (sgL m b) m (n + m) (stA n m R b (fun _ => 0) 0) fun i => n + i]) (.inl rfl) ?_ rfl
  show s_initE e cl [some (.obj cl []), some (mtD m n R), some (rwD m b), some (.int (n : Nat)), none, none, none] = _
  have q0 : ∀ f, sSetM 0 cl 0 .s (eFl (eVar 3)) [some (.obj cl []), some (mtD m n R), some (rwD m b), some (.int (n : Nat)), none, none, none] = .ok (.nx f) ↔ f = [some (.obj cl [.int (n : Nat)]), some (mtD m n R), some (rwD m b), some (.int (n : Nat)), none, none, none] := by
    intro f
    simp [sSetM, eFl_ap, setD]
    exact eq_comm
  unfold s_initE
  rw [sB_of ((q0 _).mpr rfl) rfl]
  have st : ∀ (l : List D) (j : Nat), j = l.length → sSetM 0 cl j (.o .s) (eLst aNil) [some (.obj cl l), some (mtD m n R), some (rwD m b), some (.int (n : Nat)), none, none, none] = .ok (.nx [some (.obj cl (l ++ [.lst []])), some (mtD m n R), some (rwD m b), some (.int (n : Nat)), none, none, none]) := by
    intro l j hj
    subst hj
    simp [sSetM, setD, isLD]
  rw [sB_of (st _ 1 rfl) rfl, sB_of (st _ 2 rfl) rfl, sB_of (st _ 3 rfl) rfl]
  show sB (sFor (iRn (aCons (eBi oLen (aCons (eVar 1) aNil)) aNil)) (set1 4) (bIni e cl)) (fun en => .ok (.non, en)) (ien cl n m R b 0 none none none) = _
  rw [sB_of (sFor_of (iRn1_of (i := .int (m : Nat)) (eBi1_of (x := .lst (mtL m n R)) rfl (by rw [oLen_lst, mtL_len])) (oRng_nat (by omega))) lp) rfl]
end
end Co
end
noncomputable section
namespace Co
open PySem PySem.Spec PyProof.Rows L2 Pi
abbrev bClr (e c : Nat) : EvS := (sIf (tV (eB2 oGe (eB2 oIx (eFld c 3 (eVar 0)) (eVar 2)) (eFld c 0 (eVar 0))))
 (sSeq (sAs 3 (eLc [4] (iRn (aCons (eFld c 0 (eVar 0)) aNil)) (set1 4) (tV (eB2 oNe (eB2 oIx (eB2 oIx (eFld c 2 (eVar 0)) (eVar 2)) (eVar 4)) (eC gN))) (eFl (eVar 4))))
  (sIf (tV (eB2 oGt (eBi oLen (aCons (eVar 3) aNil)) (eC (.int 0))))
 (sYa 1 (eMethX c (f_turnE e c) 0 (aCons (eVar 2) (aCons (eB2 oIx (eVar 3) (eC (.int 0))) (aCons (eVar 1) aNil)))))
 sNil))
 sNil)
abbrev bClrB (c : Nat) : EvS := (sIf (tV (eB2 oGe (eB2 oIx (eFld c 3 (eVar 0)) (eVar 2)) (eFld c 0 (eVar 0))))
 (sSeq (sAs 3 (eLc [4] (iRn (aCons (eFld c 0 (eVar 0)) aNil)) (set1 4) (tV (eB2 oNe (eB2 oIx (eB2 oIx (eFld c 2 (eVar 0)) (eVar 2)) (eVar 4)) (eC gN))) (eFl (eVar 4))))
  (sIf (tV (eB2 oGt (eBi oLen (aCons (eVar 3) aNil)) (eC (.int 0))))
 sStuck
 sNil))
 sNil)
def sB_clrE (e c : Nat) : EvS := (sSeq (sFor (iRn (aCons (eBi oLen (aCons (eFld c 2 (eVar 0)) aNil)) aNil)) (set1 2)
 (bClrB c))
  (sRet (eVar 1)))
def s_clrE (e c : Nat) : EvX := (sB (sFor (iRn (aCons (eFl (eBi oLen (aCons (eFld c 2 (eVar 0)) aNil))) aNil)) (set1 2)
 (bClr e c))
 (xPure (eVar 1)))
def f_clrE (e c : Nat) : List D → Rs D := runX 1 3 (sB_clrE e c) (s_clrE e c)
theorem evFor_ss {set : En → D → Option En} {body : EvS} {P : En → Prop} : ∀ (ds : List D) (en : En), P en → (∀ d en, d ∈ ds → P en → ∃ en1, set en d = some en1 ∧ (body en1 = .error .stuck ∨ ∃ en2, body en1 = .ok (.nx en2) ∧ P en2)) → evFor set body ds en = .error .stuck ∨ ∃ en', evFor set body ds en = .ok (.nx en') ∧ P en'
  | [], en, p, _ => .inr ⟨en, rfl, p⟩
  | d :: ds, en, p, h => by
    obtain ⟨en1, e1, q⟩ := h d en List.mem_cons_self p
    rcases q with q | ⟨en2, q, p2⟩
    · refine .inl ?_
      show bnd (ofO (set en d)) _ = _
      rw [e1, ofO_some, bnd_ok, q]
      rfl
    · rcases evFor_ss ds en2 p2 (fun d en hd => h d en (List.mem_cons_of_mem _ hd)) with r | ⟨en', r, p'⟩
      · exact .inl (evFor_one e1 q r)
      · exact .inr ⟨en', evFor_one e1 q r, p'⟩
section
variable {n m w s t sc tc cl k p e : Nat} {sg : List D} {A A0 R : Mat} {h : Nat → Nat} {c b : RowQ} {d : Rat} {o2 o3 o4 : Option D} {r : D}
abbrev cln (cl n : Nat) (sg : List D) (m w : Nat) (A : Mat) (h : Nat → Nat) (r : D) (o2 o3 o4 : Option D) : En := [some (tbl cl n sg m w A h), some r, o2, o3, o4]
theorem clr_tst (hp : p < m) : tV (eB2 oGe (eB2 oIx (eFld cl 3 (eVar 0)) (eVar 2)) (eFld cl 0 (eVar 0))) (cln cl n sg m w A h r (some (.int (p : Nat))) o3 o4) = .ok (decide (n ≤ h p)) := by
  refine tV_of (eB2_of (eB2_of fld3 rfl (oIx_hd hp)) fld0 ?_)
  show some (D.bl (decide ((n : Int) ≤ (h p : Int)))) = _
  have : decide ((n : Int) ≤ (h p : Int)) = decide (n ≤ h p) := by rw [Bool.eq_iff_iff]; simp only [decide_eq_true_eq]; omega
  rw [this]
theorem clr_list (nw : n ≤ w) (hp : p < m) (hn : n < 1000) : eLc [4] (iRn (aCons (eFld cl 0 (eVar 0)) aNil)) (set1 4) (tV (eB2 oNe (eB2 oIx (eB2 oIx (eFld cl 2 (eVar 0)) (eVar 2)) (eVar 4)) (eC gN))) (eFl (eVar 4)) (cln cl n sg m w A h r (some (.int (p : Nat))) o3 o4) = .ok (.lst (((List.range n).filter fun k => !decide (A p k = 0)).map fun k : Nat => D.int k)) := by
  refine eLc_ap (ds := (List.range n).map fun k : Nat => D.int k) (iRn1_of (i := .int (n : Nat)) fld0 (oRng_nat (by omega))) ?_ ?_
  · exact evLc_flt (List.range n) fun k hk => ⟨_, rfl, tV_of (eB2_of (eB2_of (eB2_of fld2 rfl (oIx_mt hp)) rfl (oIx_rw (by have := List.mem_range.mp hk; omega))) rfl (oNe_rL _ 0)), rfl⟩
  · rw [List.length_map]
    have := List.length_filter_le (fun k => !decide (A p k = 0)) (List.range n)
    rw [List.length_range] at this
    omega
theorem clrB_ok (nw : n ≤ w) (hn : n < 1000) (hm : m < 1000) : sB_clrE e cl (cln cl n sg m w A h r none none none) = .error .stuck ∨ ∃ fl, sB_clrE e cl (cln cl n sg m w A h r none none none) = .ok fl := by
  have lp := evFor_ss (set := set1 2) (body := bClrB cl) (P := fun en => ∃ o2 o3 o4, en = cln cl n sg m w A h r o2 o3 o4) ((List.range m).map fun k : Nat => D.int k) (cln cl n sg m w A h r none none none) ⟨none, none, none, rfl⟩ (by
    rintro d en hd ⟨o2, o3, o4, rfl⟩
    obtain ⟨p, hp, rfl⟩ := List.mem_map.mp hd
    have hp := List.mem_range.mp hp
    refine ⟨cln cl n sg m w A h r (some (.int (p : Nat))) o3 o4, rfl, ?_⟩
    have tt := clr_tst (cl := cl) (n := n) (sg := sg) (w := w) (A := A) (h := h) (r := r) (o3 := o3) (o4 := o4) hp
    by_cases q : n ≤ h p
    · rw [decide_eq_true q] at tt
      have e1 := clr_list (cl := cl) (sg := sg) (A := A) (h := h) (r := r) (o3 := o3) (o4 := o4) nw hp hn
      have e2 : sAs 3 (eLc [4] (iRn (aCons (eFld cl 0 (eVar 0)) aNil)) (set1 4) (tV (eB2 oNe (eB2 oIx (eB2 oIx (eFld cl 2 (eVar 0)) (eVar 2)) (eVar 4)) (eC gN))) (eFl (eVar 4))) (cln cl n sg m w A h r (some (.int (p : Nat))) o3 o4) = .ok (.nx (cln cl n sg m w A h r (some (.int (p : Nat))) (some (.lst (((List.range n).filter fun k => !decide (A p k = 0)).map fun k : Nat => D.int k))) o4)) := sAs_of e1
      cases hl : (List.range n).filter fun k => !decide (A p k = 0) with
      | nil =>
        rw [hl] at e2
        refine .inr ⟨cln cl n sg m w A h r (some (.int (p : Nat))) (some (.lst [])) o4, sIf_tt tt ?_, _, _, _, rfl⟩
        show sSeq _ _ _ = _
        rw [seq_nx e2]
        exact sIf_ff (tV_of (b := false) (eB2_of (eBi1_of rfl (oLen_lst _)) rfl (oGt_f (by simp))))
      | cons x l =>
        rw [hl] at e2
        refine .inl (sIf_tt tt ?_)
        show sSeq _ _ _ = _
        rw [seq_nx e2]
        exact sIf_tt (tV_of (b := true) (eB2_of (eBi1_of rfl (oLen_lst _)) rfl (oGt_t (by rw [List.map_cons, List.length_cons]; omega)))) rfl
    · rw [decide_eq_false q] at tt
      exact .inr ⟨_, sIf_ff tt, _, _, _, rfl⟩)
  have ei : iRn (aCons (eBi oLen (aCons (eFld cl 2 (eVar 0)) aNil)) aNil) (cln cl n sg m w A h r none none none) = .ok ((List.range m).map fun k : Nat => D.int k) := iRn1_of (i := .int (m : Nat)) (eBi1_of (x := .lst (mtL m (w + 1) A)) fld2 (by rw [oLen_lst, mtL_len])) (oRng_nat (by omega))
  unfold sB_clrE
  rcases lp with lp | ⟨en', lp, o2, o3, o4, rfl⟩
  · refine .inl ?_
    rw [sSeq_ap, sFor_of ei lp]
    rfl
  · refine .inr ⟨.rt r, ?_⟩
    rw [seq_nx (sFor_of ei lp)]
    rfl
theorem clr_step (bd : Fit s t sc tc n m w) (z0 : Ra s t m (w + 1) A0) (zc : Rw sc tc w c) (ec : A0 m = upd1 c w 0) (hp : p < m)
    (tb : Tb m w A0 A h) (f : ∀ i, i < m → 0 ≤ A i w) (a1 : ∀ i, i < m → n ≤ h i → A i w = 0) (a2 : ∀ i, i < p → n ≤ h i → ∀ j, j < n → A i j = 0) :
    ∃ A' h' o3' o4', bClr e cl (cln cl n sg m w A h (rwD (w + 1) (A m)) (some (.int (p : Nat))) o3 o4) = .ok (.nx (cln cl n sg m w A' h' (rwD (w + 1) (A' m)) (some (.int (p : Nat))) o3' o4')) ∧
      Tb m w A0 A' h' ∧ (∀ i, i < m → 0 ≤ A' i w) ∧ (∀ i, i < m → n ≤ h' i → A' i w = 0) ∧ (∀ i, i < p + 1 → n ≤ h' i → ∀ j, j < n → A' i j = 0) := by
  obtain ⟨nw, hn, hm, hw, ts, b, b1, b2, b3, b4⟩ := bd
  have z := fun i (hi : i < m) => (tb.size ts z0).rw hi
  have zm := tb.csize ts z0 zc ec
  have tt := clr_tst (cl := cl) (n := n) (sg := sg) (w := w) (A := A) (h := h) (r := rwD (w + 1) (A m)) (o3 := o3) (o4 := o4) hp
  by_cases q : n ≤ h p
  · rw [decide_eq_true q] at tt
    have e1 := clr_list (cl := cl) (sg := sg) (A := A) (h := h) (r := rwD (w + 1) (A m)) (o3 := o3) (o4 := o4) nw hp hn
    have e2 : sAs 3 (eLc [4] (iRn (aCons (eFld cl 0 (eVar 0)) aNil)) (set1 4) (tV (eB2 oNe (eB2 oIx (eB2 oIx (eFld cl 2 (eVar 0)) (eVar 2)) (eVar 4)) (eC gN))) (eFl (eVar 4))) (cln cl n sg m w A h (rwD (w + 1) (A m)) (some (.int (p : Nat))) o3 o4) = .ok (.nx (cln cl n sg m w A h (rwD (w + 1) (A m)) (some (.int (p : Nat))) (some (.lst (((List.range n).filter fun k => !decide (A p k = 0)).map fun k : Nat => D.int k))) o4)) := sAs_of e1
    cases hl : (List.range n).filter fun k => !decide (A p k = 0) with
    | nil =>
      rw [hl] at e2
      refine ⟨A, h, some (.lst []), o4, sIf_tt tt ?_, tb, f, a1, fun i hi hh j hj => ?_⟩
      · show sSeq _ _ _ = _
        rw [seq_nx e2]
        exact sIf_ff (tV_of (b := false) (eB2_of (eBi1_of rfl (oLen_lst _)) rfl (oGt_f (by simp))))
      · by_cases ip : i = p
        · have := filt_nil hl j hj
          rw [ip]
          simpa using this
        · exact a2 i (by omega) hh j hj
    | cons x l =>
      rw [hl] at e2
      obtain ⟨xn, xp, _⟩ := filt_head hl
      have ne : A p x ≠ 0 := by simpa using xp
      have pw := a1 p hp q
      have ui : ∀ i, i ≠ p → upd1 h p x i = h i := fun i hi => by unfold upd1; rw [if_neg hi]
      have up : upd1 h p x p = x := by unfold upd1; rw [if_pos rfl]
      have ri : ∀ i, i < m → tnb A p x i w = A i w := fun i hi => by
        by_cases ip : i = p
        · rw [ip, tnb_old0 pw, pw]
        · exact tnb_old pw ip
      refine ⟨tnb A p x, upd1 h p x, some (.lst ((x :: l).map fun k : Nat => D.int k)), o4, sIf_tt tt ?_, tb.turn hp (by omega) ne, fun i hi => by rw [ri i hi]; exact f i hi, fun i hi hh => ?_, fun i hi hh j hj => ?_⟩
      · show sSeq _ _ _ = _
        rw [seq_nx e2]
        refine sIf_tt (tV_of (b := true) (eB2_of (eBi1_of rfl (oLen_lst _)) rfl (oGt_t (by rw [List.map_cons, List.length_cons]; omega)))) ?_
        have x0 : eB2 oIx (eVar 3) (eC (.int 0)) (cln cl n sg m w A h (rwD (w + 1) (A m)) (some (.int (p : Nat))) (some (.lst ((x :: l).map fun k : Nat => D.int k))) o4) = .ok (.int (x : Nat)) := eB2_of rfl rfl (oIx_lst (l := (x :: l).map fun k : Nat => D.int k) (n := 0) (by simp))
        exact sYa_of (eMethX_of (i := 0) rfl (aC_of rfl (aC_of x0 (aC_of rfl aNil_ap))) (turn_eq (e := e) (cl := cl) (n := n) (sg := sg) (h := h) z zm hp (show x < w + 1 by omega) ne (by omega) (by omega) b2 b3 hm hw))
      · have ip : i ≠ p := fun e => by rw [e, up] at hh; omega
        rw [ui i ip] at hh
        rw [ri i hi]
        exact a1 i hi hh
      · have ip : i ≠ p := fun e => by rw [e, up] at hh; omega
        rw [ui i ip] at hh
        have az := a2 i (by omega) hh
        rw [tnb_i ip]
        show A i j - A p j * (1 / A p x) * A i x = 0
        rw [az j hj, az x xn]
        grind
  · rw [decide_eq_false q] at tt
    refine ⟨A, h, o3, o4, sIf_ff tt, tb, f, a1, fun i hi hh j hj => ?_⟩
    by_cases ip : i = p
    · rw [ip] at hh; exact absurd hh q
    · exact a2 i (by omega) hh j hj
theorem clr_eq (bd : Fit s t sc tc n m w) (z0 : Ra s t m (w + 1) A0) (zc : Rw sc tc w c) (ec : A0 m = upd1 c w 0)
    (tb : Tb m w A0 A h) (f : ∀ i, i < m → 0 ≤ A i w) (a1 : ∀ i, i < m → n ≤ h i → A i w = 0) :
    ∃ A' h', f_clrE e cl [tbl cl n sg m w A h, rwD (w + 1) (A m)] = .ok (.tup [rwD (w + 1) (A' m), tbl cl n sg m w A' h']) ∧
      Tb m w A0 A' h' ∧ (∀ i, i < m → 0 ≤ A' i w) ∧ (∀ i, i < m → n ≤ h' i → A' i w = 0 ∧ ∀ j, j < n → A' i j = 0) := by
  obtain ⟨en', lp, A', h', o2, o3, o4, rfl, g1, g2, g3, g4⟩ := evFor_rng (set := set1 2) (body := bClr e cl) (q := fun i => .int (i : Nat)) m
    (fun i en => ∃ A' h' o2 o3 o4, en = cln cl n sg m w A' h' (rwD (w + 1) (A' m)) o2 o3 o4 ∧ Tb m w A0 A' h' ∧ (∀ i, i < m → 0 ≤ A' i w) ∧ (∀ i, i < m → n ≤ h' i → A' i w = 0) ∧ ∀ i', i' < i → n ≤ h' i' → ∀ j, j < n → A' i' j = 0)
    (cln cl n sg m w A h (rwD (w + 1) (A m)) none none none) ⟨A, h, none, none, none, rfl, tb, f, a1, fun i hi => by omega⟩ (by
      rintro i en hi ⟨A', h', o2, o3, o4, rfl, g1, g2, g3, g4⟩
      obtain ⟨A2, h2, o3', o4', q, g⟩ := clr_step (e := e) (cl := cl) (sg := sg) (o3 := o3) (o4 := o4) bd z0 zc ec hi g1 g2 g3 g4
      exact ⟨cln cl n sg m w A' h' (rwD (w + 1) (A' m)) (some (.int (i : Nat))) o3 o4, rfl, _, q, A2, h2, _, o3', o4', rfl, g⟩)
  refine ⟨A', h', runX_of (p := (rwD (w + 1) (A' m), cln cl n sg m w A' h' (rwD (w + 1) (A' m)) o2 o3 o4)) (news := [tbl cl n sg m w A' h']) (clrB_ok bd.nw bd.hn bd.hm) ?_ rfl, g1, g2, fun i hi hh => ⟨g3 i hi hh, g4 i hi hh⟩⟩
  show s_clrE e cl (cln cl n sg m w A h (rwD (w + 1) (A m)) none none none) = _
  unfold s_clrE
  rw [sB_of (sFor_of (iRn1_of (i := .int (m : Nat)) (eFl_of (eBi1_of (x := .lst (mtL m (w + 1) A)) fld2 (by rw [oLen_lst, mtL_len])) rfl) (oRng_nat (by have := bd.hm; omega))) lp) rfl]
  rfl
abbrev sen (cl n : Nat) (sg : List D) (m w : Nat) (A : Mat) (h : Nat → Nat) (x : RowQ) (o2 o3 o4 : Option D) : En := [some (tbl cl n sg m w A h), some (rwD n x), o2, o3, o4]
theorem lt_tst {i j : Nat} {en : En} {f : EvE} (hf : eFld cl 0 (eVar 0) en = .ok (.int (n : Nat))) (hv : f en = .ok (.int (j : Nat))) : tV (eB2 oLt f (eFld cl 0 (eVar 0))) en = .ok (decide (j < n)) := by
  refine tV_of (eB2_of hv hf ?_)
  show some (D.bl (decide ((j : Int) < (n : Int)))) = _
  have : decide ((j : Int) < (n : Int)) = decide (j < n) := by rw [Bool.eq_iff_iff]; simp only [decide_eq_true_eq]; omega
  rw [this]
theorem slnE_eq (hn : n < 1000) : f_slnE e cl [tbl cl n sg m w A h] = .ok (rwD n (sln w m A h)) := by
  have e1 : sAs 1 (eLc [4] (iRn (aCons (eFld cl 0 (eVar 0)) aNil)) (set1 4) (fun _ => .ok true) (eFl (eC gN))) [some (tbl cl n sg m w A h), none, none, none, none] = .ok (.nx (sen cl n sg m w A h (put h (fun i => A i w) 0) none none none)) :=
    sAs_of (eLc_ap (l := rwL n fun _ => 0) (iRn1_of (i := .int (n : Nat)) fld0 (oRng_nat (by omega))) (evLc_map (q := fun k : Nat => D.int k) (r := fun _ => rD 0) (List.range n) fun i hi => ⟨_, rfl, rfl⟩) (by rw [rwL_len]; omega))
  obtain ⟨en', lp, o2, o3, rfl⟩ := evFor_rng (set := setT [2, 3]) (body := (sIf (tV (eB2 oLt (eVar 2) (eFld cl 0 (eVar 0))))
 (sSub 1 (eVar 2) (eFl (eB2 oIx (eVar 3) (eU1 oNeg (eC (.int 1))))))
 sNil)) (q := fun i => .tup [.int (h i : Nat), rwD (w + 1) (A i)]) m
    (fun i en => ∃ o2 o3, en = sen cl n sg m w A h (put h (fun i => A i w) i) o2 o3 none) (sen cl n sg m w A h (put h (fun i => A i w) 0) none none none) ⟨none, none, rfl⟩ (by
      rintro i en hi ⟨o2, o3, rfl⟩
      refine ⟨sen cl n sg m w A h (put h (fun i => A i w) i) (some (.int (h i : Nat))) (some (rwD (w + 1) (A i))) none, rfl, ?_⟩
      have tt := lt_tst (i := 0) (cl := cl) (n := n) (j := h i) (en := sen cl n sg m w A h (put h (fun i => A i w) i) (some (.int (h i : Nat))) (some (rwD (w + 1) (A i))) none) (f := eVar 2) fld0 rfl
      by_cases q : h i < n
      · rw [decide_eq_true q] at tt
        refine ⟨sen cl n sg m w A h (put h (fun i => A i w) (i + 1)) (some (.int (h i : Nat))) (some (rwD (w + 1) (A i))) none, sIf_tt tt ?_, _, _, rfl⟩
        rw [sSub_nat (i := 1) (l := rwL n (put h (fun i => A i w) i)) (n := h i) (d := rD (A i w)) rfl (eFl_of (eB2_of (y := .int (-1)) rfl rfl (oIx_rwL w _)) (flat_rD _)) rfl (ixN_nat (by rw [rwL_len]; exact q)), rwL_set]
        rfl
      · rw [decide_eq_false q] at tt
        refine ⟨_, sIf_ff tt, some (.int (h i : Nat)), some (rwD (w + 1) (A i)), ?_⟩
        have : rwD n (put h (fun i => A i w) (i + 1)) = rwD n (put h (fun i => A i w) i) := rwD_congr fun j hj => by show upd1 _ _ _ j = _; unfold upd1; rw [if_neg (by omega)]
        show [_, some (rwD n (put h (fun i => A i w) i)), _, _, _] = [_, some (rwD n (put h (fun i => A i w) (i + 1))), _, _, _]
        rw [this])
  show endR (s_slnE e cl [some (tbl cl n sg m w A h), none, none, none, none]) = _
  unfold s_slnE
  refine step_nx e1 ?_
  refine step_nx (sFor_of (ds := (List.range m).map fun i => .tup [.int (h i : Nat), rwD (w + 1) (A i)]) (by rw [iZp_of (x := hdL m h) (y := mtL m (w + 1) A) fld3 fld2]; unfold hdL mtL; rw [zip_maps]) lp) ?_
  rfl
theorem upd1_comm {f : RowQ} {i j : Nat} {x y : Rat} (ne : i ≠ j) : upd1 (upd1 f i x) j y = upd1 (upd1 f j y) i x := by
  funext k
  unfold upd1
  by_cases e1 : k = j
  · rw [if_pos e1, if_neg (by omega), if_pos e1]
  · rw [if_neg e1]
    by_cases e2 : k = i
    · rw [if_pos e2, if_pos e2]
    · rw [if_neg e2, if_neg e2, if_neg e1]
abbrev wen (cl n : Nat) (sg : List D) (m w : Nat) (A : Mat) (h : Nat → Nat) (k : Nat) (x : RowQ) (o3 o4 : Option D) : En := [some (tbl cl n sg m w A h), some (.int (k : Nat)), some (rwD n x), o3, o4]
theorem wayE_eq (z : ∀ i, i < m → Rw s t (w + 1) (A i)) (hk : k < n) (nw : n ≤ w) (hn : n < 1000) (nh : ∀ i, i < m → h i ≠ k) (bt : t + 1 ≤ 8900) (bs : s < 300000) : f_wayE e cl [tbl cl n sg m w A h, .int (k : Nat)] = .ok (rwD n (wayR k m A h)) := by
  have e1 : sAs 2 (eCall f_unitR (aCons (eFld cl 0 (eVar 0)) (aCons (eVar 1) aNil))) [some (tbl cl n sg m w A h), some (.int (k : Nat)), none, none, none] = .ok (.nx (wen cl n sg m w A h k (upd1 (put h (fun i => 0 - A i k) 0) k 1) none none)) :=
    sAs_of (eCall2_of fld0 rfl (unitR_eq hk (by omega)))
  obtain ⟨en', lp, o3, o4, rfl⟩ := evFor_rng (set := setT [3, 4]) (body := (sIf (tV (eB2 oLt (eVar 3) (eFld cl 0 (eVar 0))))
 (sSub 2 (eVar 3) (eCall (f_restE e) (aCons (eC gN) (aCons (eB2 oIx (eVar 4) (eVar 1)) aNil))))
 sNil)) (q := fun i => .tup [.int (h i : Nat), rwD (w + 1) (A i)]) m
    (fun i en => ∃ o3 o4, en = wen cl n sg m w A h k (upd1 (put h (fun i => 0 - A i k) i) k 1) o3 o4) (wen cl n sg m w A h k (upd1 (put h (fun i => 0 - A i k) 0) k 1) none none) ⟨none, none, rfl⟩ (by
      rintro i en hi ⟨o3, o4, rfl⟩
      refine ⟨wen cl n sg m w A h k (upd1 (put h (fun i => 0 - A i k) i) k 1) (some (.int (h i : Nat))) (some (rwD (w + 1) (A i))), rfl, ?_⟩
      have tt := lt_tst (i := 0) (cl := cl) (n := n) (j := h i) (en := wen cl n sg m w A h k (upd1 (put h (fun i => 0 - A i k) i) k 1) (some (.int (h i : Nat))) (some (rwD (w + 1) (A i)))) (f := eVar 3) fld0 rfl
      by_cases q : h i < n
      · rw [decide_eq_true q] at tt
        refine ⟨wen cl n sg m w A h k (upd1 (put h (fun i => 0 - A i k) (i + 1)) k 1) (some (.int (h i : Nat))) (some (rwD (w + 1) (A i))), sIf_tt tt ?_, _, _, rfl⟩
        rw [sSub_nat (i := 2) (l := rwL n (upd1 (put h (fun i => 0 - A i k) i) k 1)) (n := h i) (d := rD (0 - A i k)) rfl (eCall2_of (x := rD 0) rfl (eB2_of rfl rfl (oIx_rw (by omega))) (restE_eq Rb_0 ((z i hi).rb (by omega)) (by omega) (by omega) (by omega))) rfl (ixN_nat (by rw [rwL_len]; exact q)), rwL_set, upd1_comm (Ne.symm (nh i hi))]
        rfl
      · rw [decide_eq_false q] at tt
        refine ⟨_, sIf_ff tt, some (.int (h i : Nat)), some (rwD (w + 1) (A i)), ?_⟩
        have : rwD n (upd1 (put h (fun i => 0 - A i k) (i + 1)) k 1) = rwD n (upd1 (put h (fun i => 0 - A i k) i) k 1) := rwD_congr fun j hj => by
          unfold upd1
          split
          · rfl
          · show upd1 _ _ _ j = _; unfold upd1; rw [if_neg (by omega)]
        show [_, _, some (rwD n (upd1 (put h (fun i => 0 - A i k) i) k 1)), _, _] = [_, _, some (rwD n (upd1 (put h (fun i => 0 - A i k) (i + 1)) k 1)), _, _]
        rw [this])
  show endR (s_wayE e cl [some (tbl cl n sg m w A h), some (.int (k : Nat)), none, none, none]) = _
  unfold s_wayE
  refine step_nx e1 ?_
  refine step_nx (sFor_of (ds := (List.range m).map fun i => .tup [.int (h i : Nat), rwD (w + 1) (A i)]) (by rw [iZp_of (x := hdL m h) (y := mtL m (w + 1) A) fld3 fld2]; unfold hdL mtL; rw [zip_maps]) lp) ?_
  rfl
theorem Rb.neg {p q : Nat} {x : Rat} (h : Rb p q x) : Rb p q (-x) := ⟨by rw [Rat.neg_num]; unfold B; rw [Int.natAbs_neg]; exact h.num, by rw [Rat.neg_den]; exact h.den⟩
theorem Rb.sub {p q p' q' k : Nat} {x y : Rat} (h : Rb p q x) (h' : Rb p' q' y) (h1 : p + q' ≤ k) (h2 : p' + q ≤ k) : Rb (k + 1) (q + q') (x - y) := by
  rw [Rat.sub_eq_add_neg]
  exact h.add h'.neg h1 h2
theorem fld1 {en : En} : eFld cl 1 (eVar 0) (some (tbl cl n sg m w A h) :: en) = .ok (.lst sg) := by simp [eFld, tbl]
theorem oIx_sg {i : Nat} (hi : i < m) : oIx (.lst (sgL m b)) (.int (i : Nat)) = some (rD (sgn1 b i)) := oIx_nat (atR hi)
theorem prcE_eq {z : RowQ} (hz : Rw sc tc (n + m + 1) z) (hd : Rb 1 1 d) (hm : m < 1000) (hn : n < 1000) (bt : tc + 2 ≤ 8900) (bs : sc < 300000) : f_prcE e cl [tbl cl n (sgL m b) m (n + m) A h, rwD (n + m + 1) z, rD d] = .ok (rwD m (prc n b d z)) := by
  obtain ⟨en', lp, o4, rfl⟩ := evFor_rng (set := set1 4) (body := (sApp 3 (eCall (f_prodE e) (aCons (eCall (f_restE e) (aCons (eVar 2) (aCons (eB2 oIx (eVar 1) (eFl (eB2 oAdd (eFld cl 0 (eVar 0)) (eVar 4)))) aNil))) (aCons (eB2 oIx (eFld cl 1 (eVar 0)) (eVar 4)) aNil))))) (q := fun i => .int (i : Nat)) m
    (fun i en => ∃ o4, en = [some (tbl cl n (sgL m b) m (n + m) A h), some (rwD (n + m + 1) z), some (rD d), some (rwD i (prc n b d z)), o4]) [some (tbl cl n (sgL m b) m (n + m) A h), some (rwD (n + m + 1) z), some (rD d), some (rwD 0 (prc n b d z)), none] ⟨none, rfl⟩ (by
      rintro i en hi ⟨o4, rfl⟩
      refine ⟨[some (tbl cl n (sgL m b) m (n + m) A h), some (rwD (n + m + 1) z), some (rD d), some (rwD i (prc n b d z)), some (.int (i : Nat))], rfl, _, ?_, some (.int (i : Nat)), rfl⟩
      have rz := hz.rb (j := n + i) (by omega)
      have ix : eFl (eB2 oAdd (eFld cl 0 (eVar 0)) (eVar 4)) [some (tbl cl n (sgL m b) m (n + m) A h), some (rwD (n + m + 1) z), some (rD d), some (rwD i (prc n b d z)), some (.int (i : Nat))] = .ok (.int ((n + i : Nat) : Int)) := eFl_of (eB2_of fld0 rfl (by rw [oAdd_int]; rfl)) rfl
      have dz := hd.sub rz (k := max (1 + tc) (sc + 1)) (by omega) (by omega)
      rw [sApp_of (l := rwL i (prc n b d z)) rfl (eCall2_of (eCall2_of rfl (eB2_of rfl ix (oIx_rw (by omega))) (restE_eq hd rz (by omega) (by omega) (by omega))) (eB2_of fld1 rfl (oIx_sg hi)) (prodE_eq dz (sgn1_rb b i) (by omega) (by omega) (by omega))) (by rw [rwL_len]; omega)]
      show Except.ok (Fl.nx [_, _, _, some (.lst (rwL i (prc n b d z) ++ [rD (prc n b d z i)])), _]) = _
      unfold rwL
      rw [rmap_snoc i fun i => rD (prc n b d z i)]
      rfl)
  show endR (s_prcE e cl [some (tbl cl n (sgL m b) m (n + m) A h), some (rwD (n + m + 1) z), some (rD d), none, none]) = _
  unfold s_prcE
  refine step_nx (en' := [some (tbl cl n (sgL m b) m (n + m) A h), some (rwD (n + m + 1) z), some (rD d), some (rwD 0 (prc n b d z)), none]) rfl ?_
  refine step_nx (sFor_of (iRn1_of (i := .int (m : Nat)) (eBi1_of (x := .lst (mtL m (n + m + 1) A)) fld2 (by rw [oLen_lst, mtL_len])) (oRng_nat (by omega))) lp) ?_
  rfl
end
end Co
end
noncomputable section
namespace Co
open PySem PySem.Spec PyProof.Rows L2 Pi
def s_leastE (e c : Nat) : EvS := (sSeq (sAsMk 3 c (f_initE e c) (aCons (eVar 0) (aCons (eVar 1) (aCons (eBi oLen (aCons (eVar 2) aNil)) aNil))))
  (sSeq (sYa 4 (eMethX c (f_crowE e c) 3 (aCons (eB2 oAdd (eLc [6] (iL (eVar 2)) (set1 6) (fun _ => .ok true) (eFl (eC gN))) (eLc [6] (iL (eVar 0)) (set1 6) (fun _ => .ok true) (eFl (eC gO)))) aNil)))
  (sSeq (sYa 4 (yIx (eMethX c (f_downE e c) 3 (aCons (eVar 4) aNil)) (eC (.int 0))))
  (sSeq (sIf (tV (eB2 oNe (eB2 oIx (eVar 4) (eU1 oNeg (eC (.int 1)))) (eC gN)))
 (sRet (eTup (aCons (eC (.str "none")) (aCons (eMeth c (f_prcE e c) (eVar 3) (aCons (eVar 4) (aCons (eC gO) aNil))) aNil))))
 sNil)
  (sSeq (sYx (eMethX c (f_clrE e c) 3 (aCons (eVar 4) aNil)))
  (sSeq (sYtu [4, 5] (eMethY c (f_downE e c) 3 (eMethX c (f_crowE e c) 3 (aCons (eB2 oAdd (eVar 2) (eLc [6] (iL (eVar 0)) (set1 6) (fun _ => .ok true) (eFl (eC gN)))) aNil))))
  (sSeq (sIf (tV (eB2 (oIs true) (eVar 5) (eC .non)))
 (sRet (eTup (aCons (eC (.str "endless")) (aCons (eMeth c (f_slnE e c) (eVar 3) aNil) (aCons (eMeth c (f_wayE e c) (eVar 3) (aCons (eVar 5) aNil)) aNil)))))
 sNil)
  (sRet (eTup (aCons (eC (.str "least")) (aCons (eCall (f_restE e) (aCons (eC gN) (aCons (eB2 oIx (eVar 4) (eU1 oNeg (eC (.int 1)))) aNil))) (aCons (eMeth c (f_slnE e c) (eVar 3) aNil) (aCons (eMeth c (f_prcE e c) (eVar 3) (aCons (eVar 4) (aCons (eC gN) aNil))) aNil)))))))))))))
def f_leastE (e c : Nat) : List D → Rs D := runF 4 (s_leastE e c)
section
variable {n m w s t sc tc cl k p e : Nat} {sg : List D} {A A0 R T : Mat} {h : Nat → Nat} {b c c' : RowQ} {d d' : Rat} {o2 o3 o4 : Option D} {r : D} {M : Int} {x : Rat}
theorem methV {ev : EvE} {fn : List D → Rs D} {ea : En → Rs (List D)} {ds : List D} {en : En} {r : Rs D} (hv : ev en = .ok (tbl cl n sg m w A h)) (ha : ea en = .ok ds) (q : fn (tbl cl n sg m w A h :: ds) = r) : eMeth cl fn ev ea en = r := by
  subst q
  unfold tbl at hv ⊢
  simp [eMeth, hv, ha]
theorem eMethY_of {c i : Nat} {l l2 : List D} {fn : List D → Rs D} {w : EvX} {en en1 : En} {v1 v d' : D} (hi : en[i]? = some (some (.obj c l))) (h : w en = .ok (v1, en1)) (hi2 : en1[i]? = some (some (.obj c l2))) (q : fn [.obj c l2, v1] = .ok (.tup [v, d'])) : eMethY c fn i w en = .ok (v, en1.set i (some d')) := by
  unfold eMethY
  rw [hi]
  dsimp only
  rw [if_pos rfl, h, bnd_ok]
  dsimp only
  rw [hi2]
  dsimp only
  rw [if_pos rfl, q, bnd_ok]
theorem tbl_upd (x : RowQ) : tbl cl n sg m w (upd1 A m x) h = tbl cl n sg m w A h := by
  unfold tbl mtD
  rw [mtL_congr fun i hi j hj => by unfold upd1; rw [if_neg (by omega)]]
theorem crow_upd : upd1 (crow n m c d) (n + m) 0 = crow n m c d := by
  funext j
  unfold upd1
  split
  · rename_i q; rw [q, crow_w]
  · rfl
theorem stA_re : upd1 (stA n m R b c d) m (upd1 (crow n m c' d') (n + m) 0) = stA n m R b c' d' := by
  rw [crow_upd]
  funext i
  by_cases q : i = m
  · rw [q, stA_m]; unfold upd1; rw [if_pos rfl]
  · unfold upd1 stA; rw [if_neg q, if_neg q, if_neg q]
theorem Tb.first (n m : Nat) (R : Mat) (b : RowQ) : Tb m (n + m) (stA n m R b (fun _ => 0) 0) (stA n m R b (fun _ => 0) 0) fun i => n + i := by
  refine ⟨fun i hi => by omega, fun i hi => by rw [stA_u hi hi, if_pos rfl], fun i hi i' hi' ne => ?_, fun y => Iff.rfl, fun y _ => rfl⟩
  by_cases q : i' = m
  · rw [q, stA_m, crow_u hi]
  · rw [stA_u (by omega) hi, if_neg (fun z => ne z.symm)]
theorem Qn.sgnum (h : Qn M s x) (i : Nat) : Qn M s (x * sgn1 b i) := by
  obtain ⟨z, ez, bz⟩ := h
  unfold sgn1
  split
  · exact ⟨-z, by rw [ez, Rat.mul_neg, Rat.mul_one, Rat.neg_divInt], by unfold B at *; rw [Int.natAbs_neg]; exact bz⟩
  · exact ⟨z, by rw [ez, Rat.mul_one], bz⟩
theorem Qn.one (hM : 0 < M) (bM : B t M) : Qn M t 1 := ⟨M, by rw [Rat.divInt_self' (by omega)], bM⟩
theorem stA_ra (ts : t ≤ s) (z : Ra s t m (n + 1) (aug n R b)) : Ra s t m (n + m + 1) (stA n m R b c d) := by
  obtain ⟨M, pM, bM, q⟩ := z
  refine ⟨M, pM, bM, fun i hi j hj => ?_⟩
  by_cases h1 : j < n
  · have := q i hi j (by omega)
    unfold aug upd1 at this
    rw [if_neg (by omega)] at this
    rw [stA_r hi h1]
    exact this.sgnum i
  · by_cases h2 : j < n + m
    · obtain ⟨k, rfl⟩ : ∃ k, j = n + k := ⟨j - n, by omega⟩
      rw [stA_u hi (by omega)]
      split
      · exact (Qn.one pM bM).mono ts
      · exact Qn.zero.mono (by omega)
    · have : j = n + m := by omega
      subst this
      have := q i hi n (by omega)
      rw [aug_n] at this
      rw [stA_w hi]
      exact this.sgnum i
theorem crow_rw (hc : Rw sc tc n c) (d01 : d = 0 ∨ d = 1 ∧ tc ≤ sc) : Rw sc tc (n + m) (crow n m c d) := by
  obtain ⟨M, pM, bM, q⟩ := hc
  refine ⟨M, pM, bM, fun j hj => ?_⟩
  by_cases h1 : j < n
  · rw [crow_r h1]; exact q j h1
  · obtain ⟨k, rfl⟩ : ∃ k, j = n + k := ⟨j - n, by omega⟩
    rw [crow_u (by omega)]
    rcases d01 with rfl | ⟨rfl, le⟩
    · exact Qn.zero.mono (by omega)
    · exact (Qn.one pM bM).mono le
theorem crow_L : rwL (n + m) (fun j => if j < n then c j else d) = rwL (n + m) (crow n m c d) := rwL_congr fun j hj => by
  unfold crow
  by_cases q : j < n
  · rw [if_pos q, if_pos q]
  · rw [if_neg q, if_neg q, if_pos hj]
theorem put_all {P : Rat → Prop} {v : Nat → Rat} (z : P 0) : ∀ {k : Nat}, (∀ i, i < k → P (v i)) → ∀ j, P (put h v k j)
  | 0, _, j => z
  | k + 1, q, j => by
    show P (upd1 (put h v k) (h k) (v k) j)
    unfold upd1
    split
    · exact q k (by omega)
    · exact put_all z (fun i hi => q i (by omega)) j
theorem sln_rw (z : Ra s t m (w + 1) A) (n : Nat) : Rw s t n (sln w m A h) := by
  obtain ⟨M, pM, bM, q⟩ := z
  exact ⟨M, pM, bM, fun j _ => put_all (P := Qn M s) (Qn.zero.mono (by omega)) (fun i hi => q i hi w (by omega)) j⟩
theorem Qn.minus (hM : 0 < M) (h : Qn M s x) : Qn M s (0 - x) := by
  obtain ⟨z, ez, bz⟩ := h
  exact ⟨-z, by rw [ez, Rat.sub_eq_add_neg, Rat.zero_add, Rat.neg_divInt], by unfold B at *; rw [Int.natAbs_neg]; exact bz⟩
theorem wayR_rw (ts : t ≤ s) (z : Ra s t m (w + 1) A) (hk : k < w + 1) (n : Nat) : Rw s t n (wayR k m A h) := by
  obtain ⟨M, pM, bM, q⟩ := z
  refine ⟨M, pM, bM, fun j _ => ?_⟩
  unfold wayR upd1
  split
  · exact (Qn.one pM bM).mono ts
  · exact put_all (P := Qn M s) (Qn.zero.mono (by omega)) (fun i hi => (q i hi k hk).minus pM) j
theorem prc_rx {K M : Int} {S : Nat} {z : RowQ} (pK : 0 < K) (pM : 0 < M) (q : ∀ j, j < n + m + 1 → Qn (K * M) S (z j)) : ∀ i, i < m → Qn (K * M) S (prc n b 0 z i) := fun i hi => ((q (n + i) (by omega)).minus (Int.mul_pos pK pM)).sgnum i
theorem crow_rx {K : Int} (hc : ∀ j, j < n → Qn K sc (c j)) : ∀ j, j < n + m → Qn K sc (crow n m c 0 j) := fun j hj => by
  by_cases h1 : j < n
  · rw [crow_r h1]; exact hc j h1
  · obtain ⟨k, rfl⟩ : ∃ k, j = n + k := ⟨j - n, by omega⟩
    rw [crow_u (by omega)]
    exact Qn.zero.mono (by omega)
theorem prc_rw {z : RowQ} (hz : Rw sc tc (n + m + 1) z) (d01 : d = 0 ∨ d = 1) : Rw (sc + tc + 1) tc m (prc n b d z) := by
  obtain ⟨M, pM, bM, q⟩ := hz
  refine ⟨M, pM, bM, fun i hi => ?_⟩
  refine Qn.sgnum ?_ i
  obtain ⟨y, ey, by_⟩ := (q (n + i) (by omega)).minus pM
  rcases d01 with rfl | rfl
  · exact ⟨y, ey, by_.mono (by omega)⟩
  · refine ⟨M + y, ?_, B.add (n := sc + tc) (bM.mono (by omega)) (by_.mono (by omega))⟩
    rw [show (1 : Rat) - z (n + i) = 1 + (0 - z (n + i)) by grind, ey, show (1 : Rat) = Rat.divInt M M from (Rat.divInt_self' (by omega)).symm, Rat.divInt_add_divInt _ _ (by omega) (by omega), ← Int.add_mul, Rat.divInt_mul_right (by omega)]
end
def AnsN (n m : Nat) (R : Mat) (b : RowQ) (S T : Nat) (d : D) : Prop := ∃ u, d = .tup [.str "none", rwD m u] ∧ Non n m R b u ∧ Rw S T m u
def AnsE (n m : Nat) (R : Mat) (b c : RowQ) (S T : Nat) (d : D) : Prop := ∃ x y, d = .tup [.str "endless", rwD n x, rwD n y] ∧ Edl n m R b c x y ∧ Rw S T n x ∧ Rw S T n y
def AnsL (n m : Nat) (R : Mat) (b c : RowQ) (sc S T S2 T2 : Nat) (d : D) : Prop := ∃ v x u, d = .tup [.str "least", rD v, rwD n x, rwD m u] ∧ Lst n m R b c x u v ∧ Rb S2 T2 v ∧ Rw S T n x ∧ Rw S2 T2 m u ∧
  ∀ K : Int, 0 < K → (∀ j, j < n → Qn K sc (c j)) → ∃ P : Int, 0 < P ∧ B T P ∧ ∀ i, i < m → Qn (K * P) S2 (u i)
section
variable {n m s t sc tc cl e : Nat} {R : Mat} {b c : RowQ}
abbrev len (cl n m : Nat) (R : Mat) (b c : RowQ) (A : Mat) (h : Nat → Nat) (o4 o5 o6 : Option D) : En := [some (mtD m n R), some (rwD m b), some (rwD n c), some (tbl cl n (sgL m b) m (n + m) A h), o4, o5, o6]
theorem lc_const {v i : Nat} {ev : EvE} {g : D} {l : List D} {en : En} (k : Nat) (hl : l.length = k) (h : ev en = .ok (.lst l)) (hk : k < 1000) (hs : ∀ d, ∃ en1, set1 v (wipE [v] en) d = some en1) (hg : flat g = true) :
    eLc [v] (iL ev) (set1 v) (fun _ => .ok true) (eFl (eC g)) en = .ok (.lst ((List.range k).map fun _ => g)) := by
  refine eLc_ap (iL_of h) ?_ (by rw [List.length_map, List.length_range]; omega)
  have : (List.range k).map (fun _ => g) = l.map fun _ => g := by
    rw [← hl]
    apply List.ext_getElem
    · simp
    · intro i h1 h2; simp
  rw [this]
  have := evLc_map (set := set1 v) (e := eFl (eC g)) (enb := wipE [v] en) (q := fun d => d) (r := fun _ => g) l fun d _ => by
    obtain ⟨en1, h1⟩ := hs d
    exact ⟨en1, h1, eFl_of rfl hg⟩
  rwa [List.map_id'] at this
theorem leastE_eq (zR : Ra s t m (n + 1) (aug n R b)) (zc : Rw sc tc n c) (s1 : 1 ≤ s) (t1 : 1 ≤ t) (sc1 : 1 ≤ sc) (tc1 : 1 ≤ tc) (bd : Fit s t sc tc n m (n + m)) :
    ∃ d, f_leastE e cl [mtD m n R, rwD m b, rwD n c] = .ok d ∧ (AnsN n m R b (sP s m + tP s t m + m + (tP s t m + 1) + 2) (tP s t m + 1) d ∨ AnsE n m R b c (sP s m) (tP s t m) d ∨
      AnsL n m R b c sc (sP s m) (tP s t m) (sc + sP s m + tP s t m + m + (tc + tP s t m) + 1) (tc + tP s t m + 1) d) := by
  have ts := bd.ts
  have bd1 : Fit s t 1 1 n m (n + m) := ⟨bd.nw, bd.hn, bd.hm, bd.hw, bd.ts, bd.b, by have := bd.b1; omega, bd.b2, by have := bd.b3; omega, by have := bd.b4; omega⟩
  have hn := bd.hn
  have hm := bd.hm
  have hw := bd.hw
  have f1 := bd.b
  have f2 := bd.b1
  have f3 := bd.b2
  have f4 := bd.b3
  have f5 := bd.b4
  have sPs := sP_mono s (Nat.zero_le m)
  have tPs := tP_mono s t (Nat.zero_le m)
  have sP0 : sP s 0 = s := rfl
  have tP0 : tP s t 0 = t := rfl
  have mk := initE_eq (e := e) (cl := cl) (fun i hi j hj => (zR.rw hi).rb hj) (by omega) (by omega) hn hm
  have e0 : sAsMk 3 cl (f_initE e cl) (aCons (eVar 0) (aCons (eVar 1) (aCons (eBi oLen (aCons (eVar 2) aNil)) aNil))) [some (mtD m n R), some (rwD m b), some (rwD n c), none, none, none, none] = .ok (.nx (len cl n m R b c (stA n m R b (fun _ => 0) 0) (fun i => n + i) none none none)) := by
    show bnd _ _ = _
    rw [aC_of (d := mtD m n R) rfl (aC_of (d := rwD m b) rfl (aC_of (d := .int (n : Nat)) (eBi1_of (x := .lst (rwL n c)) rfl (by rw [oLen_lst, rwL_len])) aNil_ap)), bnd_ok, mk, bnd_ok]
    rfl
  -- phase 1
  have tb0 := Tb.first n m R b
  have c1w : Rw 1 1 (n + m) (crow n m (fun _ => 0) 1) := crow_rw ⟨1, by decide, by unfold B; decide, fun j hj => Qn.zero.mono (by omega)⟩ (.inr ⟨rfl, by omega⟩)
  have ra0 : Ra s t m (n + m + 1) (stA n m R b (fun _ => 0) 0) := stA_ra ts zR
  have ra1 : Ra s t m (n + m + 1) (stA n m R b (fun _ => 0) 1) := stA_ra ts zR
  have tb1 := tb0.recost (crow n m (fun _ => 0) 1)
  rw [stA_re] at tb1
  have k1 := crow_eq (e := e) (cl := cl) (n := n) (sg := sgL m b) ra0 tb0.lt c1w (by omega) (by omega) (by omega) hw
  have arg1 : eB2 oAdd (eLc [6] (iL (eVar 2)) (set1 6) (fun _ => .ok true) (eFl (eC gN))) (eLc [6] (iL (eVar 0)) (set1 6) (fun _ => .ok true) (eFl (eC gO))) (len cl n m R b c (stA n m R b (fun _ => 0) 0) (fun i => n + i) none none none) = .ok (rwD (n + m) (crow n m (fun _ => 0) 1)) := by
    refine eB2_of (lc_const (i := 0) n (rwL_len n c) rfl hn (fun d => ⟨_, rfl⟩) rfl) (lc_const (i := 0) m (mtL_len m n R) rfl hm (fun d => ⟨_, rfl⟩) rfl) ?_
    rw [oAdd_lst (by simp; omega)]
    have := rwL_app n m (fun _ => 0) (fun _ => 1)
    show some (D.lst (rwL n (fun _ => 0) ++ rwL m fun _ => 1)) = _
    rw [this, crow_L (c := fun _ => 0) (d := 1)]
    rfl
  have e1 : sYa 4 (eMethX cl (f_crowE e cl) 3 (aCons (eB2 oAdd (eLc [6] (iL (eVar 2)) (set1 6) (fun _ => .ok true) (eFl (eC gN))) (eLc [6] (iL (eVar 0)) (set1 6) (fun _ => .ok true) (eFl (eC gO)))) aNil)) (len cl n m R b c (stA n m R b (fun _ => 0) 0) (fun i => n + i) none none none) = .ok (.nx (len cl n m R b c (stA n m R b (fun _ => 0) 0) (fun i => n + i) (some (rwD (n + m + 1) (crw (stA n m R b (fun _ => 0) 0) (fun i => n + i) (crow n m (fun _ => 0) 1) (n + m) m))) none none)) :=
    sYa_of (eMethX_of (i := 3) rfl (aC_of arg1 aNil_ap) k1)
  obtain ⟨A2, h2, d2, k2, tb2, fe2, _, out2⟩ := down_eq (e := e) (cl := cl) (sg := sgL m b) (J := fun _ _ => True) (fun _ _ _ _ _ _ => trivial) bd1 ra1 c1w (by rw [stA_m, crow_upd]) tb1 (fun i hi => by
    show 0 ≤ (upd1 _ _ _ i : RowQ) _
    unfold upd1
    rw [if_neg (by omega), stA_w hi]
    exact sgn1_b b i) trivial
  have um : ∀ (X : Mat) (y : RowQ), upd1 X m y m = y := fun X y => by unfold upd1; rw [if_pos rfl]
  rw [tbl_upd, um] at k2
  have nn2 : ∀ j, j < n → 0 ≤ A2 m j := by
    rcases out2 with ⟨_, q⟩ | ⟨x, _, q1, q2, q3⟩
    · exact q
    · exact absurd (tb2.bounded q1 q2 q3) id
  have e2 : sYa 4 (yIx (eMethX cl (f_downE e cl) 3 (aCons (eVar 4) aNil)) (eC (.int 0))) (len cl n m R b c (stA n m R b (fun _ => 0) 0) (fun i => n + i) (some (rwD (n + m + 1) (crw (stA n m R b (fun _ => 0) 0) (fun i => n + i) (crow n m (fun _ => 0) 1) (n + m) m))) none none) = .ok (.nx (len cl n m R b c A2 h2 (some (rwD (n + m + 1) (A2 m))) none none)) := by
    refine sYa_of (p := (rwD (n + m + 1) (A2 m), len cl n m R b c A2 h2 (some (rwD (n + m + 1) (crw (stA n m R b (fun _ => 0) 0) (fun i => n + i) (crow n m (fun _ => 0) 1) (n + m) m))) none none)) ?_
    unfold yIx
    rw [eMethX_of (i := 3) (l := [.int (n : Nat), .lst (sgL m b), mtD m (n + m + 1) (stA n m R b (fun _ => 0) 0), .lst (hdL m fun i => n + i)]) rfl (aC_of rfl aNil_ap) k2]
    rfl
  have z2 := tb2.csize ts ra1 c1w (by rw [stA_m, crow_upd])
  have t3 : tV (eB2 oNe (eB2 oIx (eVar 4) (eU1 oNeg (eC (.int 1)))) (eC gN)) (len cl n m R b c A2 h2 (some (rwD (n + m + 1) (A2 m))) none none) = .ok (!decide (A2 m (n + m) = 0)) :=
    tV_of (eB2_of (eB2_of (y := .int (-1)) rfl rfl (oIx_rwL (n + m) _)) rfl (oNe_rL _ 0))
  have pre : ∀ r, endR (sSeq (sIf (tV (eB2 oNe (eB2 oIx (eVar 4) (eU1 oNeg (eC (.int 1)))) (eC gN)))
 (sRet (eTup (aCons (eC (.str "none")) (aCons (eMeth cl (f_prcE e cl) (eVar 3) (aCons (eVar 4) (aCons (eC gO) aNil))) aNil))))
 sNil)
  (sSeq (sYx (eMethX cl (f_clrE e cl) 3 (aCons (eVar 4) aNil)))
  (sSeq (sYtu [4, 5] (eMethY cl (f_downE e cl) 3 (eMethX cl (f_crowE e cl) 3 (aCons (eB2 oAdd (eVar 2) (eLc [6] (iL (eVar 0)) (set1 6) (fun _ => .ok true) (eFl (eC gN)))) aNil))))
  (sSeq (sIf (tV (eB2 (oIs true) (eVar 5) (eC .non)))
 (sRet (eTup (aCons (eC (.str "endless")) (aCons (eMeth cl (f_slnE e cl) (eVar 3) aNil) (aCons (eMeth cl (f_wayE e cl) (eVar 3) (aCons (eVar 5) aNil)) aNil)))))
 sNil)
  (sRet (eTup (aCons (eC (.str "least")) (aCons (eCall (f_restE e) (aCons (eC gN) (aCons (eB2 oIx (eVar 4) (eU1 oNeg (eC (.int 1)))) aNil))) (aCons (eMeth cl (f_slnE e cl) (eVar 3) aNil) (aCons (eMeth cl (f_prcE e cl) (eVar 3) (aCons (eVar 4) (aCons (eC gN) aNil))) aNil))))))))) (len cl n m R b c A2 h2 (some (rwD (n + m + 1) (A2 m))) none none)) = r → f_leastE e cl [mtD m n R, rwD m b, rwD n c] = r := by
    intro r hr
    show endR (s_leastE e cl [some (mtD m n R), some (rwD m b), some (rwD n c), none, none, none, none]) = _
    unfold s_leastE
    rw [seq_nx e0, seq_nx e1, seq_nx e2]
    exact hr
  by_cases v0 : A2 m (n + m) = 0
  · -- phase 2
    rw [decide_eq_true v0] at t3
    obtain ⟨A3, h3, k3, tb3, fe3, ar3⟩ := clr_eq (e := e) (cl := cl) (sg := sgL m b) bd1 ra1 c1w (by rw [stA_m, crow_upd]) tb2 fe2 (tb2.zero_of fe2 v0)
    have e4 : sYx (eMethX cl (f_clrE e cl) 3 (aCons (eVar 4) aNil)) (len cl n m R b c A2 h2 (some (rwD (n + m + 1) (A2 m))) none none) = .ok (.nx (len cl n m R b c A3 h3 (some (rwD (n + m + 1) (A2 m))) none none)) := by
      unfold sYx
      rw [eMethX_of (i := 3) (l := [.int (n : Nat), .lst (sgL m b), mtD m (n + m + 1) A2, .lst (hdL m h2)]) rfl (aC_of rfl aNil_ap) k3]
      rfl
    have c2w : Rw sc tc (n + m) (crow n m c 0) := crow_rw zc (.inl rfl)
    have ra2 : Ra s t m (n + m + 1) (stA n m R b c 0) := stA_ra ts zR
    have tb4 := tb3.recost (crow n m c 0)
    rw [stA_re] at tb4
    have k4 := crow_eq (e := e) (cl := cl) (n := n) (sg := sgL m b) (tb3.size ts ra1) tb3.lt c2w (by omega) (by omega) (by omega) hw
    have arg2 : eB2 oAdd (eVar 2) (eLc [6] (iL (eVar 0)) (set1 6) (fun _ => .ok true) (eFl (eC gN))) (len cl n m R b c A3 h3 (some (rwD (n + m + 1) (A2 m))) none none) = .ok (rwD (n + m) (crow n m c 0)) := by
      refine eB2_of (x := .lst (rwL n c)) rfl (lc_const (i := 0) m (mtL_len m n R) rfl hm (fun d => ⟨_, rfl⟩) rfl) ?_
      rw [oAdd_lst (by rw [rwL_len]; simp; omega)]
      have := rwL_app n m c (fun _ => 0)
      show some (D.lst (rwL n c ++ rwL m fun _ => 0)) = _
      rw [this, crow_L (c := c) (d := 0)]
      rfl
    have x4 : eMethX cl (f_crowE e cl) 3 (aCons (eB2 oAdd (eVar 2) (eLc [6] (iL (eVar 0)) (set1 6) (fun _ => .ok true) (eFl (eC gN)))) aNil) (len cl n m R b c A3 h3 (some (rwD (n + m + 1) (A2 m))) none none) = .ok (rwD (n + m + 1) (crw A3 h3 (crow n m c 0) (n + m) m), len cl n m R b c A3 h3 (some (rwD (n + m + 1) (A2 m))) none none) :=
      eMethX_of (i := 3) rfl (aC_of arg2 aNil_ap) k4
    obtain ⟨A5, h5, d5, k5, tb5, fe5, ar5, out5⟩ := down_eq (e := e) (cl := cl) (sg := sgL m b) (J := fun A h => ∀ i, i < m → n ≤ h i → A i (n + m) = 0 ∧ ∀ j, j < n → A i j = 0) (fun A h cc p j bs i hi hh => by
      have ip : i ≠ p := fun q => by
        rw [q] at hh
        unfold upd1 at hh
        rw [if_pos rfl] at hh
        have := bs.cn
        omega
      have hh : n ≤ h i := by unfold upd1 at hh; rwa [if_neg ip] at hh
      obtain ⟨j1, j2⟩ := j i hi hh
      have z := j2 cc bs.cn
      refine ⟨?_, fun j' hj' => ?_⟩
      · rw [tnb_i ip]; show A i (n + m) - A p (n + m) * (1 / A p cc) * A i cc = 0; rw [j1, z]; grind
      · rw [tnb_i ip]; show A i j' - A p j' * (1 / A p cc) * A i cc = 0; rw [j2 j' hj', z]; grind) bd ra2 c2w (by rw [stA_m, crow_upd]) tb4 (fun i hi => by
        show 0 ≤ (upd1 _ _ _ i : RowQ) _
        unfold upd1
        rw [if_neg (by omega)]
        exact fe3 i hi) (fun i hi hh => by
        have := ar3 i hi hh
        unfold upd1
        rw [if_neg (by omega)]
        exact this)
    rw [tbl_upd, um] at k5
    have e5 : sYtu [4, 5] (eMethY cl (f_downE e cl) 3 (eMethX cl (f_crowE e cl) 3 (aCons (eB2 oAdd (eVar 2) (eLc [6] (iL (eVar 0)) (set1 6) (fun _ => .ok true) (eFl (eC gN)))) aNil))) (len cl n m R b c A3 h3 (some (rwD (n + m + 1) (A2 m))) none none) = .ok (.nx (len cl n m R b c A5 h5 (some (rwD (n + m + 1) (A5 m))) (some d5) none)) := by
      unfold sYtu
      rw [eMethY_of (i := 3) (l := [.int (n : Nat), .lst (sgL m b), mtD m (n + m + 1) A3, .lst (hdL m h3)]) (l2 := [.int (n : Nat), .lst (sgL m b), mtD m (n + m + 1) A3, .lst (hdL m h3)]) rfl x4 rfl k5]
      rfl
    have z5 := tb5.csize ts ra2 c2w (by rw [stA_m, crow_upd])
    have s5 := tb5.size ts ra2
    have sl : ∀ o5, eMeth cl (f_slnE e cl) (eVar 3) aNil (len cl n m R b c A5 h5 (some (rwD (n + m + 1) (A5 m))) o5 none) = .ok (rwD n (sln (n + m) m A5 h5)) := fun o5 => methV rfl aNil_ap (slnE_eq hn)
    rcases out5 with ⟨rfl, nn5⟩ | ⟨x, rfl, xn, neg, col⟩
    · -- a least one
      have pr : eMeth cl (f_prcE e cl) (eVar 3) (aCons (eVar 4) (aCons (eC gN) aNil)) (len cl n m R b c A5 h5 (some (rwD (n + m + 1) (A5 m))) (some .non) none) = .ok (rwD m (prc n b 0 (A5 m))) :=
        methV rfl (aC_of rfl (aC_of rfl aNil_ap)) (prcE_eq (d := 0) z5 (Rb_0.mono (by omega) (by omega)) hm hn (by omega) (by omega))
      have v5 := z5.rb (j := n + m) (by omega)
      have vv : eCall (f_restE e) (aCons (eC gN) (aCons (eB2 oIx (eVar 4) (eU1 oNeg (eC (.int 1)))) aNil)) (len cl n m R b c A5 h5 (some (rwD (n + m + 1) (A5 m))) (some .non) none) = .ok (rD (0 - A5 m (n + m))) :=
        eCall2_of (x := rD 0) rfl (eB2_of (y := .int (-1)) rfl rfl (oIx_rwL (n + m) _)) (restE_eq Rb_0 v5 (by omega) (by omega) (by omega))
      refine ⟨_, pre _ ?_, .inr (.inr ⟨0 - A5 m (n + m), sln (n + m) m A5 h5, prc n b 0 (A5 m), rfl, tb5.least_of fe5 (fun i hi hh => (ar5 i hi hh).1) nn5, (Rb_0.sub v5 (k := sc + sP s m + tP s t m + m + (tc + tP s t m)) (by omega) (by omega)).mono (by omega) (by omega), sln_rw s5 n, (prc_rw z5 (.inl rfl)).mono (by omega) (by omega), fun K pK qc => by
        obtain ⟨P, pP, bP, q⟩ := tb5.csizeX pK ts ra2 (crow_rx qc) (by rw [stA_m, crow_upd])
        exact ⟨P, pP, bP, fun i hi => (prc_rx pK pP q i hi).mono (by omega)⟩⟩)⟩
      rw [seq_nx (sIf_ff t3), seq_nx e4, seq_nx e5, seq_nx (sIf_ff (tV_of (b := false) rfl)), sRet_ap, eTup_of (aC_of (d := .str "least") rfl (aC_of vv (aC_of (sl _) (aC_of pr aNil_ap))))]
      rfl
    · have nh : ∀ i, i < m → h5 i ≠ x := fun i hi q => by
        have := tb5.nul i hi m (Nat.le_refl _) (by omega)
        rw [q] at this
        rw [this] at neg
        exact absurd neg (by decide)
      have wy : eMeth cl (f_wayE e cl) (eVar 3) (aCons (eVar 5) aNil) (len cl n m R b c A5 h5 (some (rwD (n + m + 1) (A5 m))) (some (.int (x : Nat))) none) = .ok (rwD n (wayR x m A5 h5)) :=
        methV rfl (aC_of rfl aNil_ap) (wayE_eq (w := n + m) (fun i hi => s5.rw hi) xn bd.nw hn nh (by omega) (by omega))
      refine ⟨_, pre _ ?_, .inr (.inl ⟨sln (n + m) m A5 h5, wayR x m A5 h5, rfl, tb5.endless_of fe5 ar5 xn neg col, sln_rw s5 n, wayR_rw (tP_le ts m) s5 (show x < n + m + 1 by omega) n⟩)⟩
      rw [seq_nx (sIf_ff t3), seq_nx e4, seq_nx e5, sSeq_ap, sIf_tt (tV_of (b := true) rfl) (show sRet (eTup (aCons (eC (.str "endless")) (aCons (eMeth cl (f_slnE e cl) (eVar 3) aNil) (aCons (eMeth cl (f_wayE e cl) (eVar 3) (aCons (eVar 5) aNil)) aNil)))) _ = .ok (.rt (.tup [.str "endless", rwD n (sln (n + m) m A5 h5), rwD n (wayR x m A5 h5)])) from by rw [sRet_ap, eTup_of (aC_of (d := .str "endless") rfl (aC_of (sl _) (aC_of wy aNil_ap)))]; rfl)]
      rfl
  · rw [decide_eq_false v0] at t3
    have pr : eMeth cl (f_prcE e cl) (eVar 3) (aCons (eVar 4) (aCons (eC gO) aNil)) (len cl n m R b c A2 h2 (some (rwD (n + m + 1) (A2 m))) none none) = .ok (rwD m (prc n b 1 (A2 m))) :=
      methV rfl (aC_of rfl (aC_of rfl aNil_ap)) (prcE_eq (d := 1) z2 Rb_1 hm hn (by omega) (by omega))
    refine ⟨_, pre _ ?_, .inl ⟨prc n b 1 (A2 m), rfl, tb2.none_of fe2 nn2 v0, (prc_rw z2 (.inr rfl)).mono (by omega) (by omega)⟩⟩
    rw [sSeq_ap, sIf_tt t3 (show sRet (eTup (aCons (eC (.str "none")) (aCons (eMeth cl (f_prcE e cl) (eVar 3) (aCons (eVar 4) (aCons (eC gO) aNil))) aNil))) _ = .ok (.rt (.tup [.str "none", rwD m (prc n b 1 (A2 m))])) from by rw [sRet_ap, eTup_of (aC_of (d := .str "none") rfl (aC_of pr aNil_ap))]; rfl)]
    rfl
end
end Co
end
noncomputable section
namespace Co
open PySem PySem.Spec PyProof.Rows L2 Pi
def s_plist : EvS := (sSeq (sIf (tO (tNt (tV (eIsi .list (eVar 0)))) (tV (eB2 oNe (eBi oLen (aCons (eVar 0) aNil)) (eVar 1))))
 (sRet (eC (.bl false)))
 sNil)
  (sRet (eBi oAll (aCons (eLc [2] (iL (eVar 0)) (set1 2) (fun _ => .ok true) (eCall f_pratio (aCons (eVar 2) aNil))) aNil))))
def f_plist : List D → Rs D := runF 1 s_plist
def s_psolv : EvS := (sSeq (sIf (tO (tNt (tV (eCall f_plist (aCons (eVar 2) (aCons (eVar 3) aNil))))) (tNt (tV (eBi oAll (aCons (eLc [6] (iL (eVar 2)) (set1 6) (fun _ => .ok true) (eB2 oGe (eB2 oIx (eVar 6) (eC (.int 0))) (eC (.int 0)))) aNil)))))
 (sRet (eC (.bl false)))
 sNil)
  (sRet (eBi oAll (aCons (eLc [4, 5] (iZp (aCons (eVar 0) (aCons (eVar 1) aNil))) (setT [4, 5]) (fun _ => .ok true) (eB2 oEq (eCall f_pdot (aCons (eVar 4) (aCons (eVar 2) aNil))) (eVar 5))) aNil))))
def f_psolv : List D → Rs D := runF 3 s_psolv
def s_pcol : EvS := (sRet (eLc [2] (iL (eVar 0)) (set1 2) (fun _ => .ok true) (eFl (eB2 oIx (eVar 2) (eVar 1)))))
def f_pcol : List D → Rs D := runF 1 s_pcol
abbrev bPl : EvS := (sIf (tV (eCall f_less (aCons (eB2 oIx (eVar 2) (eVar 4)) (aCons (eCall f_pdot (aCons (eCall f_pcol (aCons (eVar 0) (aCons (eVar 4) aNil))) (aCons (eB2 oIx (eVar 3) (eC (.int 3))) aNil))) aNil))))
 (sRet (eC (.bl false)))
 sNil)
def s_pleast : EvS := (sSeq (sIf (tO (tV (eB2 oNe (eBi oLen (aCons (eVar 3) aNil)) (eC (.int 4)))) (tO (tNt (tV (eCall f_pratio (aCons (eB2 oIx (eVar 3) (eC (.int 1))) aNil)))) (tNt (tV (eCall f_psolv (aCons (eVar 0) (aCons (eVar 1) (aCons (eB2 oIx (eVar 3) (eC (.int 2))) (aCons (eBi oLen (aCons (eVar 2) aNil)) aNil)))))))))
 (sRet (eC (.bl false)))
 sNil)
  (sSeq (sIf (tO (tNt (tV (eCall f_plist (aCons (eB2 oIx (eVar 3) (eC (.int 3))) (aCons (eBi oLen (aCons (eVar 0) aNil)) aNil))))) (tV (eB2 oNe (eCall f_pdot (aCons (eVar 2) (aCons (eB2 oIx (eVar 3) (eC (.int 2))) aNil))) (eB2 oIx (eVar 3) (eC (.int 1))))))
 (sRet (eC (.bl false)))
 sNil)
  (sSeq (sFor (iRn (aCons (eBi oLen (aCons (eVar 2) aNil)) aNil)) (set1 4)
 bPl)
  (sRet (eB2 oEq (eCall f_pdot (aCons (eVar 1) (aCons (eB2 oIx (eVar 3) (eC (.int 3))) aNil))) (eB2 oIx (eVar 3) (eC (.int 1))))))))
def f_pleast : List D → Rs D := runF 1 s_pleast
abbrev bPn : EvS := (sIf (tV (eB2 oGt (eB2 oIx (eCall f_pdot (aCons (eCall f_pcol (aCons (eVar 0) (aCons (eVar 4) aNil))) (aCons (eB2 oIx (eVar 3) (eC (.int 1))) aNil))) (eC (.int 0))) (eC (.int 0))))
 (sRet (eC (.bl false)))
 sNil)
def s_pnone : EvS := (sSeq (sIf (tO (tV (eB2 oNe (eBi oLen (aCons (eVar 3) aNil)) (eC (.int 2)))) (tNt (tV (eCall f_plist (aCons (eB2 oIx (eVar 3) (eC (.int 1))) (aCons (eBi oLen (aCons (eVar 0) aNil)) aNil))))))
 (sRet (eC (.bl false)))
 sNil)
  (sSeq (sFor (iRn (aCons (eBi oLen (aCons (eVar 2) aNil)) aNil)) (set1 4)
 bPn)
  (sRet (eB2 oGt (eB2 oIx (eCall f_pdot (aCons (eVar 1) (aCons (eB2 oIx (eVar 3) (eC (.int 1))) aNil))) (eC (.int 0))) (eC (.int 0))))))
def f_pnone : List D → Rs D := runF 1 s_pnone
def s_pendl : EvS := (sSeq (sIf (tO (tV (eB2 oNe (eBi oLen (aCons (eVar 3) aNil)) (eC (.int 3)))) (tNt (tV (eCall f_psolv (aCons (eVar 0) (aCons (eVar 1) (aCons (eB2 oIx (eVar 3) (eC (.int 1))) (aCons (eBi oLen (aCons (eVar 2) aNil)) aNil))))))))
 (sRet (eC (.bl false)))
 sNil)
  (sSeq (sAs 4 (eLc [5] (iL (eVar 0)) (set1 5) (fun _ => .ok true) (eTup (aCons (eC (.int 0)) (aCons (eC (.int 1)) aNil)))))
  (sRet (eAn (eCall f_psolv (aCons (eVar 0) (aCons (eVar 4) (aCons (eB2 oIx (eVar 3) (eC (.int 2))) (aCons (eBi oLen (aCons (eVar 2) aNil)) aNil))))) (eB2 oLt (eB2 oIx (eCall f_pdot (aCons (eVar 2) (aCons (eB2 oIx (eVar 3) (eC (.int 2))) aNil))) (eC (.int 0))) (eC (.int 0)))))))
def f_pendl : List D → Rs D := runF 2 s_pendl
def s_pholds : EvS := (sSeq (sIf (tO (tNt (tV (eIsi .tuple (eVar 3)))) (tO (tV (eB2 oEq (eBi oLen (aCons (eVar 3) aNil)) (eC (.int 0)))) (tNt (tV (eIsi .str (eB2 oIx (eVar 3) (eC (.int 0))))))))
 (sRet (eC (.bl false)))
 sNil)
  (sSeq (sIf (tV (eB2 oEq (eB2 oIx (eVar 3) (eC (.int 0))) (eC (.str "least"))))
 (sRet (eCall f_pleast (aCons (eVar 0) (aCons (eVar 1) (aCons (eVar 2) (aCons (eVar 3) aNil))))))
 sNil)
  (sSeq (sIf (tV (eB2 oEq (eB2 oIx (eVar 3) (eC (.int 0))) (eC (.str "none"))))
 (sRet (eCall f_pnone (aCons (eVar 0) (aCons (eVar 1) (aCons (eVar 2) (aCons (eVar 3) aNil))))))
 sNil)
  (sRet (eAn (eB2 oEq (eB2 oIx (eVar 3) (eC (.int 0))) (eC (.str "endless"))) (eCall f_pendl (aCons (eVar 0) (aCons (eVar 1) (aCons (eVar 2) (aCons (eVar 3) aNil))))))))))
def f_pholds : List D → Rs D := runF 0 s_pholds
def s_pasked (e c : Nat) : EvS := (sSeq (sAs 3 (eTup (aCons (eLc [5] (iL (eVar 0)) (set1 5) (fun _ => .ok true) (eBi oList (aCons (eVar 5) aNil))) (aCons (eBi oList (aCons (eVar 1) aNil)) (aCons (eBi oList (aCons (eVar 2) aNil)) aNil)))))
  (sSeq (sAs 4 (eCall (f_leastE e c) (aCons (eB2 oIx (eVar 3) (eC (.int 0))) (aCons (eB2 oIx (eVar 3) (eC (.int 1))) (aCons (eB2 oIx (eVar 3) (eC (.int 2))) aNil)))))
  (sSeq (sIf (tO (tV (eB2 oNe (eVar 3) (eTup (aCons (eVar 0) (aCons (eVar 1) (aCons (eVar 2) aNil)))))) (tNt (tV (eCall f_pholds (aCons (eVar 0) (aCons (eVar 1) (aCons (eVar 2) (aCons (eVar 4) aNil))))))))
 (sRet (eTup (aCons (eC (.str "else")) (aCons (eC (.str "")) aNil))))
 sNil)
  (sRet (eVar 4)))))
def f_pasked (e c : Nat) : List D → Rs D := runF 3 (s_pasked e c)
structure Chk (n m u vR vb vc S T : Nat) : Prop where
  n7 : n < 1000
  m5 : m < 1000
  c1 : 2 * (vR + T) ≤ 8900
  c2 : 2 * (vc + T) ≤ 8900
  c3 : 2 * (vb + T) ≤ 8900
  c4 : u + S < 100000
section
variable {n m s t s' t' u vR vb vc S' T k K : Nat} {R : Mat} {a b c x y z : RowQ} {v : Rat}
theorem S_rw (ha : Rw s t k a) (hb : Rw s' t' k b) : ∀ i, i ≤ k → Rb (s + s' + i) (t + t') (S a b i) := by
  obtain ⟨M, pM, bM, q⟩ := ha
  obtain ⟨N, pN, bN, q'⟩ := hb
  have pp := Int.mul_pos pM pN
  have all : ∀ i, i ≤ k → Qn (M * N) (s + s' + i) (S a b i) := by
    intro i
    induction i with
    | zero => exact fun _ => Qn.zero.mono (by omega)
    | succ i ih =>
      intro hi
      exact (ih (by omega)).add (by omega) ((q i (by omega)).mul (q' i (by omega))) (show s + s' ≤ s + s' + i by omega)
  exact fun i hi => (all i hi).rb (by omega) (bM.mul bN)
theorem pdotQ (ha : Rw s t k a) (hb : Rw s' t' k b) (h : 2 * (t + t') ≤ 8900) (h2 : s + s' < 100000) (hk : k < 1000) : f_pdot [rwD k a, rwD k b] = .ok (rD (S a b k)) := by
  have lc : evLc (setT [2, 3]) (fun _ => .ok true) (eCall f_ptimes (aCons (eVar 2) (aCons (eVar 3) aNil))) (wipE [2, 3] [some (rwD k a), some (rwD k b), none, none]) (zipD (rwL k a) (rwL k b)) = .ok ((List.range k).map fun j => rD (a j * b j)) := by
    unfold rwL
    rw [zip_maps]
    exact evLc_map (q := fun j => .tup [rD (a j), rD (b j)]) (r := fun j => rD (a j * b j)) (List.range k) fun j hj => ⟨_, rfl, eCall2_of rfl rfl (ptimes_eq (ha.rb (List.mem_range.mp hj)) (hb.rb (List.mem_range.mp hj)) (by omega) (by omega) (by omega))⟩
  have tot : f_ptotal [.lst ((List.range k).map fun j => rD (a j * b j))] = .ok (rD (S a b k)) := by
    obtain ⟨en', lp, o', rfl⟩ := evFor_rng (set := set1 2) (body := sAs 1 (eCall f_pplus (aCons (eVar 1) (aCons (eVar 2) aNil)))) (q := fun j => rD (a j * b j)) k
      (fun i en => ∃ o, en = [some (.lst ((List.range k).map fun j => rD (a j * b j))), some (rD (S a b i)), o]) [some (.lst ((List.range k).map fun j => rD (a j * b j))), some (rD 0), none] ⟨none, rfl⟩ (by
        rintro i en hi ⟨o, rfl⟩
        have i1 := S_rw ha hb i (by omega)
        exact ⟨_, rfl, _, sAs_of (eCall2_of rfl rfl (pplus_eq i1 ((ha.rb hi).mul (hb.rb hi)) (by omega) (by omega) (by omega))), _, rfl⟩)
    show endR (s_ptotal [some (.lst ((List.range k).map fun j => rD (a j * b j))), none, none]) = _
    unfold s_ptotal
    refine step_nx (en' := [some (.lst ((List.range k).map fun j => rD (a j * b j))), some (rD 0), none]) rfl ?_
    refine step_nx (sFor_of (iL_of rfl) lp) ?_
    rfl
  show endR (bnd (eCall _ _ [some (rwD k a), some (rwD k b), none, none]) _) = _
  rw [eCall1_of (eLc_ap (iZp_of rfl rfl) lc (by rw [List.length_map, List.length_range]; omega)) tot]
  rfl
theorem Ra.col (z : Ra s t m n R) {j : Nat} (hj : j < n) : Rw s t m fun i => R i j := by
  obtain ⟨M, p, b, q⟩ := z
  exact ⟨M, p, b, fun i hi => q i hi j hj⟩
theorem all_true {ev : EvE} {en : En} (h : ev en = .ok (.lst ((List.range k).map fun _ => .bl true))) : eBi oAll (aCons ev aNil) en = .ok (.bl true) := by
  rw [eBi1_of h (oAll_map (fun _ => true) (List.range k))]
  simp
theorem plist_eq (h : ∀ j, j < n → Rb s t (x j)) (ht : t ≤ 8900) (hn : n < 1000) : f_plist [rwD n x, .int (n : Nat)] = .ok (.bl true) := by
  show endR (s_plist [some (rwD n x), some (.int (n : Nat)), none]) = _
  unfold s_plist
  refine step_nx (sIf_ff (tO_f (tNt_of (c := true) (tV_of (b := true) rfl)) (tV_of (b := false) (eB2_of (eBi1_of (x := .lst (rwL n x)) rfl (by rw [oLen_lst, rwL_len])) rfl (oNe_self rfl))))) ?_
  have lc : eLc [2] (iL (eVar 0)) (set1 2) (fun _ => .ok true) (eCall f_pratio (aCons (eVar 2) aNil)) [some (rwD n x), some (.int (n : Nat)), none] = .ok (.lst ((List.range n).map fun j => .bl true)) :=
    eLc_ap (iL_of (l := rwL n x) rfl) (evLc_map (q := fun j => rD (x j)) (r := fun _ => .bl true) (List.range n) fun j hj => ⟨_, rfl, eCall1_of rfl (pratio_eq (h j (List.mem_range.mp hj)) ht)⟩) (by rw [List.length_map, List.length_range]; omega)
  rw [sRet_ap, all_true lc]
  rfl
theorem num_nn {q : Rat} : (0 ≤ q.num) ↔ 0 ≤ q := Rat.num_nonneg
theorem oGe_num (q : Rat) : oGe (.int q.num) (.int 0) = some (.bl (decide (0 ≤ q))) := by
  show some (D.bl (decide ((0 : Int) ≤ q.num))) = _
  have : decide ((0 : Int) ≤ q.num) = decide (0 ≤ q) := by rw [Bool.eq_iff_iff, decide_eq_true_eq, decide_eq_true_eq]; exact num_nn
  rw [this]
theorem num_lt {q : Rat} : q.num < 0 ↔ q < 0 := by
  have h1 : 0 ≤ q.num ↔ 0 ≤ q := Rat.num_nonneg
  rw [← Int.not_le, ← Rat.not_le, h1]
theorem num_gt {q : Rat} : 0 < q.num ↔ 0 < q := by
  have h1 := num_lt (q := -q)
  rw [Rat.neg_num] at h1
  constructor
  · intro h
    have := h1.mp (by omega)
    grind
  · intro h
    have := h1.mpr (by grind)
    omega
theorem oGt_num (q : Rat) : oGt (.int q.num) (.int 0) = some (.bl (decide (0 < q))) := by
  show some (D.bl (decide ((0 : Int) < q.num))) = _
  have : decide ((0 : Int) < q.num) = decide (0 < q) := by rw [Bool.eq_iff_iff, decide_eq_true_eq, decide_eq_true_eq]; exact num_gt
  rw [this]
theorem oLt_num (q : Rat) : oLt (.int q.num) (.int 0) = some (.bl (decide (q < 0))) := by
  show some (D.bl (decide (q.num < (0 : Int)))) = _
  have : decide (q.num < (0 : Int)) = decide (q < 0) := by rw [Bool.eq_iff_iff, decide_eq_true_eq, decide_eq_true_eq]; exact num_lt
  rw [this]
theorem oIx_r0 (q : Rat) : oIx (rD q) (.int 0) = some (.int q.num) := rfl
theorem psolv_eq (hR : Ra u vR m n R) (hx : Rw S' T n x) (nn : ∀ j, j < n → 0 ≤ x j) (sol : ∀ i, i < m → S (R i) x n = b i) (n7 : n < 1000) (hm : m < 1000) (c1 : 2 * (vR + T) ≤ 8900) (c4 : u + S' < 100000) :
    f_psolv [mtD m n R, rwD m b, rwD n x, .int (n : Nat)] = .ok (.bl true) := by
  show endR (s_psolv [some (mtD m n R), some (rwD m b), some (rwD n x), some (.int (n : Nat)), none, none, none]) = _
  unfold s_psolv
  have l1 : eLc [6] (iL (eVar 2)) (set1 6) (fun _ => .ok true) (eB2 oGe (eB2 oIx (eVar 6) (eC (.int 0))) (eC (.int 0))) [some (mtD m n R), some (rwD m b), some (rwD n x), some (.int (n : Nat)), none, none, none] = .ok (.lst ((List.range n).map fun _ => .bl true)) :=
    eLc_ap (iL_of (l := rwL n x) rfl) (evLc_map (q := fun j => rD (x j)) (r := fun _ => .bl true) (List.range n) fun j hj => ⟨_, rfl, eB2_of (eB2_of rfl rfl (oIx_r0 _)) rfl (by rw [oGe_num, decide_eq_true (nn j (List.mem_range.mp hj))])⟩) (by rw [List.length_map, List.length_range]; omega)
  refine step_nx (sIf_ff (tO_f (tNt_of (c := true) (tV_of (eCall2_of rfl rfl (plist_eq (fun j hj => hx.rb hj) (by omega) (by omega))))) (tNt_of (c := true) (tV_of (all_true l1))))) ?_
  have l2 : eLc [4, 5] (iZp (aCons (eVar 0) (aCons (eVar 1) aNil))) (setT [4, 5]) (fun _ => .ok true) (eB2 oEq (eCall f_pdot (aCons (eVar 4) (aCons (eVar 2) aNil))) (eVar 5)) [some (mtD m n R), some (rwD m b), some (rwD n x), some (.int (n : Nat)), none, none, none] = .ok (.lst ((List.range m).map fun _ => .bl true)) := by
    refine eLc_ap (iZp_of (x := mtL m n R) (y := rwL m b) rfl rfl) ?_ (by rw [List.length_map, List.length_range]; omega)
    unfold mtL rwL
    rw [zip_maps]
    refine evLc_map (q := fun i => .tup [rwD n (R i), rD (b i)]) (r := fun _ => .bl true) (List.range m) fun i hi => ?_
    have hi := List.mem_range.mp hi
    refine ⟨_, rfl, eB2_of (eCall2_of rfl rfl (pdotQ (hR.rw hi) hx c1 c4 n7)) rfl ?_⟩
    rw [sol i hi, oEq_rL, decide_eq_true rfl]
  rw [sRet_ap, all_true l2]
  rfl
theorem pcol_eq (hk : k < n) (hm : m < 1000) : f_pcol [mtD m n R, .int (k : Nat)] = .ok (rwD m fun i => R i k) := by
  show endR (s_pcol [some (mtD m n R), some (.int (k : Nat)), none]) = _
  unfold s_pcol
  rw [sRet_ap, eLc_ap (l := rwL m fun i => R i k) (iL_of (l := mtL m n R) rfl) (evLc_map (q := fun i => rwD n (R i)) (r := fun i => rD (R i k)) (List.range m) fun i hi => ⟨_, rfl, eFl_of (eB2_of rfl rfl (oIx_rw hk)) (flat_rD _)⟩) (by rw [rwL_len]; omega)]
  rfl
abbrev oT4 (v : Rat) (n m : Nat) (x u : RowQ) : D := .tup [.str "least", rD v, rwD n x, rwD m u]
theorem pleast_eq (ck : Chk n m u vR vb vc S' T) (hR : Ra u vR m n R) (hb : Rw u vb m b) (hc : Rw u vc n c) (hx : Rw S' T n x) (hy : Rw S' T m y) (hv : Rb S' T v) (l : Lst n m R b c x y v) :
    f_pleast [mtD m n R, rwD m b, rwD n c, oT4 v n m x y] = .ok (.bl true) := by
  obtain ⟨n7, m5, c1, c2, c3, c4⟩ := ck
  have lp : ∃ o4, evFor (set1 4) bPl ((List.range n).map fun k : Nat => D.int k) [some (mtD m n R), some (rwD m b), some (rwD n c), some (oT4 v n m x y), none] = .ok (.nx [some (mtD m n R), some (rwD m b), some (rwD n c), some (oT4 v n m x y), o4]) := by
    obtain ⟨en', lp, o4, rfl⟩ := evFor_rng (set := set1 4) (body := bPl) (q := fun i => .int (i : Nat)) n
      (fun i en => ∃ o4, en = [some (mtD m n R), some (rwD m b), some (rwD n c), some (oT4 v n m x y), o4]) [some (mtD m n R), some (rwD m b), some (rwD n c), some (oT4 v n m x y), none] ⟨none, rfl⟩ (by
        rintro i en hi ⟨o4, rfl⟩
        refine ⟨[some (mtD m n R), some (rwD m b), some (rwD n c), some (oT4 v n m x y), some (.int (i : Nat))], rfl, _, ?_, some (.int (i : Nat)), rfl⟩
        have cl := hR.col hi
        have rb := S_rw cl hy m (Nat.le_refl _)
        refine sIf_ff (tV_of (b := false) (eCall2_of (eB2_of rfl rfl (oIx_rw hi)) (eCall2_of (eCall2_of rfl rfl (pcol_eq hi (by omega))) (y := rwD m y) rfl (pdotQ cl hy c1 c4 m5)) ?_))
        rw [lessE_eq (hc.rb hi) rb (by omega) (by omega) (by omega) (by omega)]
        rw [decide_eq_false]
        have := l.low i hi
        grind)
    exact ⟨o4, lp⟩
  obtain ⟨o4, lp⟩ := lp
  show endR (s_pleast [some (mtD m n R), some (rwD m b), some (rwD n c), some (oT4 v n m x y), none]) = _
  unfold s_pleast
  refine step_nx (sIf_ff (tO_f (tV_of (b := false) (eB2_of (eBi1_of rfl rfl) rfl rfl)) (tO_f (tNt_of (c := true) (tV_of (eCall1_of (x := rD v) rfl (pratio_eq hv (by omega))))) (tNt_of (c := true) (tV_of (eCall4_of (z := rwD n x) (u := .int (n : Nat)) rfl rfl rfl (eBi1_of (x := .lst (rwL n c)) rfl (by rw [oLen_lst, rwL_len])) (psolv_eq hR hx l.nn l.sol n7 (by omega) c1 c4))))))) ?_
  refine step_nx (sIf_ff (tO_f (tNt_of (c := true) (tV_of (eCall2_of (x := rwD m y) (y := .int (m : Nat)) rfl (eBi1_of (x := .lst (mtL m n R)) rfl (by rw [oLen_lst, mtL_len])) (plist_eq (fun j hj => hy.rb hj) (by omega) (by omega))))) (tV_of (b := false) (eB2_of (eCall2_of (y := rwD n x) rfl rfl (pdotQ hc hx c2 c4 n7)) (y := rD v) rfl (by rw [l.val, oNe_rL, decide_eq_true rfl]; rfl))))) ?_
  refine step_nx (sFor_of (iRn1_of (i := .int (n : Nat)) (eBi1_of (x := .lst (rwL n c)) rfl (by rw [oLen_lst, rwL_len])) (oRng_nat (by omega))) lp) ?_
  rw [sRet_ap, eB2_of (eCall2_of (y := rwD m y) rfl rfl (pdotQ hb hy c3 c4 m5)) (y := rD v) rfl (by rw [l.dual, oEq_rL, decide_eq_true rfl])]
  rfl
theorem pnone_eq (ck : Chk n m u vR vb vc S' T) (hR : Ra u vR m n R) (hb : Rw u vb m b) (hy : Rw S' T m y) (l : Non n m R b y) :
    f_pnone [mtD m n R, rwD m b, rwD n c, .tup [.str "none", rwD m y]] = .ok (.bl true) := by
  obtain ⟨n7, m5, c1, c2, c3, c4⟩ := ck
  obtain ⟨en', lp, o4, rfl⟩ := evFor_rng (set := set1 4) (body := bPn) (q := fun i => .int (i : Nat)) n
    (fun i en => ∃ o4, en = [some (mtD m n R), some (rwD m b), some (rwD n c), some (.tup [.str "none", rwD m y]), o4]) [some (mtD m n R), some (rwD m b), some (rwD n c), some (.tup [.str "none", rwD m y]), none] ⟨none, rfl⟩ (by
      rintro i en hi ⟨o4, rfl⟩
      refine ⟨[some (mtD m n R), some (rwD m b), some (rwD n c), some (.tup [.str "none", rwD m y]), some (.int (i : Nat))], rfl, _, ?_, some (.int (i : Nat)), rfl⟩
      have cl := hR.col hi
      refine sIf_ff (tV_of (b := false) (eB2_of (eB2_of (eCall2_of (eCall2_of rfl rfl (pcol_eq hi (by omega))) (y := rwD m y) rfl (pdotQ cl hy c1 c4 m5)) rfl (oIx_r0 _)) rfl ?_))
      rw [oGt_num, decide_eq_false]
      have := l.low i hi
      grind)
  show endR (s_pnone [some (mtD m n R), some (rwD m b), some (rwD n c), some (.tup [.str "none", rwD m y]), none]) = _
  unfold s_pnone
  refine step_nx (sIf_ff (tO_f (tV_of (b := false) (eB2_of (eBi1_of rfl rfl) rfl rfl)) (tNt_of (c := true) (tV_of (eCall2_of (x := rwD m y) (y := .int (m : Nat)) rfl (eBi1_of (x := .lst (mtL m n R)) rfl (by rw [oLen_lst, mtL_len])) (plist_eq (fun j hj => hy.rb hj) (by omega) (by omega))))))) ?_
  refine step_nx (sFor_of (iRn1_of (i := .int (n : Nat)) (eBi1_of (x := .lst (rwL n c)) rfl (by rw [oLen_lst, rwL_len])) (oRng_nat (by omega))) lp) ?_
  rw [sRet_ap, eB2_of (eB2_of (eCall2_of (y := rwD m y) rfl rfl (pdotQ hb hy c3 c4 m5)) rfl (oIx_r0 _)) rfl (by rw [oGt_num, decide_eq_true l.pos])]
  rfl
theorem pendl_eq (ck : Chk n m u vR vb vc S' T) (hR : Ra u vR m n R) (hc : Rw u vc n c) (hx : Rw S' T n x) (hy : Rw S' T n y) (l : Edl n m R b c x y) :
    f_pendl [mtD m n R, rwD m b, rwD n c, .tup [.str "endless", rwD n x, rwD n y]] = .ok (.bl true) := by
  obtain ⟨n7, m5, c1, c2, c3, c4⟩ := ck
  show endR (s_pendl [some (mtD m n R), some (rwD m b), some (rwD n c), some (.tup [.str "endless", rwD n x, rwD n y]), none, none]) = _
  unfold s_pendl
  refine step_nx (sIf_ff (tO_f (tV_of (b := false) (eB2_of (eBi1_of rfl rfl) rfl rfl)) (tNt_of (c := true) (tV_of (eCall4_of (z := rwD n x) (u := .int (n : Nat)) rfl rfl rfl (eBi1_of (x := .lst (rwL n c)) rfl (by rw [oLen_lst, rwL_len])) (psolv_eq hR hx l.nn l.sol n7 (by omega) c1 c4)))))) ?_
  refine step_nx (en' := [some (mtD m n R), some (rwD m b), some (rwD n c), some (.tup [.str "endless", rwD n x, rwD n y]), some (rwD m fun _ => 0), none]) (sAs_of (eLc_ap (l := rwL m fun _ => 0) (iL_of (l := mtL m n R) rfl) (evLc_map (q := fun i => rwD n (R i)) (r := fun _ => rD 0) (List.range m) fun i hi => ⟨_, rfl, rfl⟩) (by rw [rwL_len]; omega))) ?_
  rw [sRet_ap]
  show endR (bnd (bnd (eCall _ _ _) _) _) = _
  rw [eCall4_of (z := rwD n y) (u := .int (n : Nat)) rfl rfl rfl (eBi1_of (x := .lst (rwL n c)) rfl (by rw [oLen_lst, rwL_len])) (psolv_eq (b := fun _ => 0) hR hy l.nn' l.sol' n7 (by omega) c1 c4), bnd_ok]
  show endR (bnd (eB2 oLt _ _ _) _) = _
  rw [eB2_of (eB2_of (eCall2_of (y := rwD n y) rfl rfl (pdotQ hc hy c2 c4 n7)) rfl (oIx_r0 _)) rfl (by rw [oLt_num, decide_eq_true l.neg])]
  rfl
end
inductive Ans (n m : Nat) (R : Mat) (b c : RowQ) : D → Prop where
  | least {v x u} (l : Lst n m R b c x u v) : Ans n m R b c (.tup [.str "least", rD v, rwD n x, rwD m u])
  | none {u} (l : Non n m R b u) : Ans n m R b c (.tup [.str "none", rwD m u])
  | endless {x y} (l : Edl n m R b c x y) : Ans n m R b c (.tup [.str "endless", rwD n x, rwD n y])
section
variable {n m s t sc tc u vR vb vc S' T e cl : Nat} {R : Mat} {b c : RowQ}
theorem pasked_eq (zR : Ra s t m (n + 1) (aug n R b)) (zc : Rw sc tc n c) (s1 : 1 ≤ s) (t1 : 1 ≤ t) (sc1 : 1 ≤ sc) (tc1 : 1 ≤ tc) (bd : Fit s t sc tc n m (n + m))
    (ck : Chk n m u vR vb vc S' T) (hR : Ra u vR m n R) (hb : Rw u vb m b) (hc : Rw u vc n c)
    (hS : sc + sP s m + tP s t m + m + (tc + tP s t m) + 2 ≤ S') (hT : tc + tP s t m + 1 ≤ T) :
    ∃ d, f_pasked e cl [mtD m n R, rwD m b, rwD n c] = .ok d ∧ Ans n m R b c d := by
  obtain ⟨d, e1, ans⟩ := leastE_eq (e := e) (cl := cl) zR zc s1 t1 sc1 tc1 bd
  have n7 := ck.n7
  have m5 := ck.m5
  have key : Ans n m R b c d ∧ f_pholds [mtD m n R, rwD m b, rwD n c, d] = .ok (.bl true) := by
    rcases ans with ⟨y, rfl, l, hy⟩ | ⟨x, y, rfl, l, hx, hy⟩ | ⟨v, x, y, rfl, l, hv, hx, hy, _⟩
    · refine ⟨.none l, ?_⟩
      show endR (s_pholds [some (mtD m n R), some (rwD m b), some (rwD n c), some (.tup [.str "none", rwD m y])]) = _
      unfold s_pholds
      refine step_nx (sIf_ff (tO_f (tNt_of (c := true) (tV_of (b := true) rfl)) (tO_f (tV_of (b := false) rfl) (tNt_of (c := true) (tV_of (b := true) rfl))))) ?_
      refine step_nx (sIf_ff (tV_of (b := false) rfl)) ?_
      rw [sSeq_ap, sIf_tt (tV_of (b := true) rfl) (show sRet (eCall f_pnone (aCons (eVar 0) (aCons (eVar 1) (aCons (eVar 2) (aCons (eVar 3) aNil))))) _ = .ok (.rt (.bl true)) from by rw [sRet_ap, eCall4_of rfl rfl rfl rfl (pnone_eq ck hR hb (hy.mono (by omega) (by omega)) l)]; rfl)]
      rfl
    · refine ⟨.endless l, ?_⟩
      show endR (s_pholds [some (mtD m n R), some (rwD m b), some (rwD n c), some (.tup [.str "endless", rwD n x, rwD n y])]) = _
      unfold s_pholds
      refine step_nx (sIf_ff (tO_f (tNt_of (c := true) (tV_of (b := true) rfl)) (tO_f (tV_of (b := false) rfl) (tNt_of (c := true) (tV_of (b := true) rfl))))) ?_
      refine step_nx (sIf_ff (tV_of (b := false) rfl)) ?_
      refine step_nx (sIf_ff (tV_of (b := false) rfl)) ?_
      rw [sRet_ap]
      show endR (bnd (bnd (eB2 oEq _ _ _) _) _) = _
      rw [eB2_of (z := .bl true) rfl rfl rfl, bnd_ok, asB_bl, ofO_some, bnd_ok, if_pos rfl]
      rw [eCall4_of rfl rfl rfl rfl (pendl_eq ck hR hc (hx.mono (by omega) (by omega)) (hy.mono (by omega) (by omega)) l)]
      rfl
    · refine ⟨.least l, ?_⟩
      show endR (s_pholds [some (mtD m n R), some (rwD m b), some (rwD n c), some (oT4 v n m x y)]) = _
      unfold s_pholds
      refine step_nx (sIf_ff (tO_f (tNt_of (c := true) (tV_of (b := true) rfl)) (tO_f (tV_of (b := false) rfl) (tNt_of (c := true) (tV_of (b := true) rfl))))) ?_
      rw [sSeq_ap, sIf_tt (tV_of (b := true) rfl) (show sRet (eCall f_pleast (aCons (eVar 0) (aCons (eVar 1) (aCons (eVar 2) (aCons (eVar 3) aNil))))) _ = .ok (.rt (.bl true)) from by rw [sRet_ap, eCall4_of rfl rfl rfl rfl (pleast_eq ck hR hb hc (hx.mono (by omega) (by omega)) (hy.mono (by omega) (by omega)) (hv.mono (by omega) (by omega)) l)]; rfl)]
      rfl
  refine ⟨d, ?_, key.1⟩
  show endR (s_pasked e cl [some (mtD m n R), some (rwD m b), some (rwD n c), none, none, none]) = _
  unfold s_pasked
  refine step_nx (en' := [some (mtD m n R), some (rwD m b), some (rwD n c), some (.tup [mtD m n R, rwD m b, rwD n c]), none, none]) (sAs_of (eTup_of (aC_of (eLc_ap (l := mtL m n R) (iL_of (l := mtL m n R) rfl) (evLc_map (q := fun i => rwD n (R i)) (r := fun i => rwD n (R i)) (List.range m) fun i hi => ⟨_, rfl, eBi1_of rfl (oList_lst _)⟩) (by rw [mtL_len]; omega)) (aC_of (eBi1_of rfl (oList_lst _)) (aC_of (eBi1_of rfl (oList_lst _)) rfl))))) ?_
  refine step_nx (en' := [some (mtD m n R), some (rwD m b), some (rwD n c), some (.tup [mtD m n R, rwD m b, rwD n c]), some d, none]) (sAs_of (eCall3_of (x := mtD m n R) (y := rwD m b) (z := rwD n c) rfl rfl rfl e1)) ?_
  refine step_nx (sIf_ff (tO_f (tV_of (b := false) (eB2_of (x := .tup [mtD m n R, rwD m b, rwD n c]) (y := .tup [mtD m n R, rwD m b, rwD n c]) rfl rfl (oNe_self (by
    rw [pl, plL, plL, plL, plL, pl_mt _ _ _ _ (by decide), pl_rw _ _ _ (by decide), pl_rw _ _ _ (by decide)]
    rfl)))) (tNt_of (c := true) (tV_of (eCall4_of rfl rfl rfl rfl key.2))))) ?_
  rfl
end
end Co
end
noncomputable section
namespace Co
open PySem PySem.Spec PyProof.Rows L2 Pi
def qabs (q : Rat) : Rat := if q < 0 then -q else q
theorem qabs_nn (q : Rat) : 0 ≤ qabs q := by unfold qabs; split <;> grind
theorem rD_abs (q : Rat) : rD (qabs q) = .tup [.int (q.num.natAbs : Int), .int (q.den : Int)] := by
  unfold qabs
  split
  · rename_i h
    have := num_lt.mpr h
    unfold rD
    rw [Rat.neg_num, Rat.neg_den, show -q.num = (q.num.natAbs : Int) by omega]
  · rename_i h
    have : 0 ≤ q.num := num_nn.mpr (by grind)
    unfold rD
    rw [show (q.num.natAbs : Int) = q.num by omega]
section
variable {n m s t k : Nat} {a : RowQ} {M : Int} {q : Rat}
theorem Qn.absq (h : Qn M s q) : Qn M s (qabs q) := by
  obtain ⟨z, ez, bz⟩ := h
  unfold qabs
  split
  · exact ⟨-z, by rw [ez, Rat.neg_divInt], by unfold B at *; rw [Int.natAbs_neg]; exact bz⟩
  · exact ⟨z, ez, bz⟩
def s_patl : EvS := (sRet (eLc [1] (iL (eVar 0)) (set1 1) (fun _ => .ok true) (eFl (eTup (aCons (eBi oAbs (aCons (eB2 oIx (eVar 1) (eC (.int 0))) aNil)) (aCons (eB2 oIx (eVar 1) (eC (.int 1))) aNil))))))
def f_patl : List D → Rs D := runF 1 s_patl
theorem patl_eq (hn : n < 1000) : f_patl [rwD n a] = .ok (rwD n fun j => qabs (a j)) := by
  show endR (s_patl [some (rwD n a), none]) = _
  unfold s_patl
  rw [sRet_ap, eLc_ap (l := rwL n fun j => qabs (a j)) (iL_of (l := rwL n a) rfl) (evLc_map (q := fun j => rD (a j)) (r := fun j => rD (qabs (a j))) (List.range n) fun j hj => ⟨_, rfl, eFl_of (by
    rw [rD_abs, eTup_of (aC_of (d := .int ((a j).num.natAbs : Int)) (eBi1_of (eB2_of rfl rfl (oIx_r0 _)) (oAbs_int _)) (aC_of (d := .int ((a j).den : Int)) (eB2_of (x := rD (a j)) rfl rfl rfl) aNil_ap))]) (flat_rD _)⟩) (by rw [rwL_len]; omega)]
  rfl
end
end Co
end
noncomputable section
namespace Co
open PySem PySem.Spec PyProof.Rows L2 Pi
def s_ptabT : EvE := (rCons (sAs 1 (eCall f_drawn (aCons (eCall f_kcell (aCons (eVar 0) (aCons (eC (.int 0)) aNil))) (aCons (eLst (aCons (eC (.int 6)) (aCons (eC (.int 7)) (aCons (eC (.int 8)) aNil)))) aNil))))
  (rCons (sAs 2 (eB2 oEq (eB2 oIx (eVar 1) (eC (.int 2))) (eC (.int 3))))
  (rCons (sAs 3 (eB2 oAdd (eC (.int 1)) (eB2 oIx (eVar 1) (eC (.int 1)))))
  (rCons (sAs0 4 (eLst aNil))
  (rCons (sFor (iRn (aCons (eB2 oIx (eLst (aCons (eB2 oIx (eVar 1) (eC (.int 0))) (aCons (eBi oMin (aCons (eB2 oIx (eVar 1) (eC (.int 0))) (aCons (eC (.int 2)) aNil))) aNil))) (eBi oInt (aCons (eVar 2) aNil))) aNil)) (set1 5)
 (sAppO 4 (eCall f_pnum (aCons (eCall f_kcell (aCons (eVar 0) (aCons (eB2 oAdd (eC (.int 1)) (eVar 5)) aNil))) (aCons (eVar 3) (aCons (eVar 2) aNil))))))
  (rCons (sIf (tAn (tV (eB2 oEq (eB2 oIx (eVar 1) (eC (.int 2))) (eC (.int 5)))) (tV (eB2 oGt (eBi oLen (aCons (eVar 4) aNil)) (eC (.int 1)))))
 (sSubO 4 (-1) (eFi (eBi oList (aCons (eB2 oIx (eVar 4) (eC (.int 0))) aNil))))
 sNil)
  (rCons (sIf (tAn (tV (eB2 oEq (eB2 oIx (eVar 1) (eC (.int 2))) (eC (.int 6)))) (tV (eB2 oGt (eBi oLen (aCons (eVar 4) aNil)) (eC (.int 2)))))
 (sSubO 4 (-1) (eLc [6, 7] (iZp (aCons (eB2 oIx (eVar 4) (eC (.int 0))) (aCons (eB2 oIx (eVar 4) (eC (.int 1))) aNil))) (setT [6, 7]) (fun _ => .ok true) (eCall f_pplus (aCons (eVar 6) (aCons (eVar 7) aNil)))))
 sNil)
  (eTupO 4 (aCons (eVar 3) (aCons (eVar 2) aNil))))))))))
def f_ptabT : List D → Rs D := runT 7 s_ptabT
theorem rstep {s : EvS} {t : EvE} {en en' : En} {r : Rs D} (h : s en = .ok (.nx en')) (q : t en' = r) : rCons s t en = r := by
  unfold rCons
  rw [h]
  exact q
theorem sAppO_of {i : Nat} {l : List D} {ev : EvE} {en : En} {d : D} (h : getL i en = .ok l) (h2 : ev en = .ok d) (hl : l.length < 1000000) (hd : isLD d = true) : sAppO i ev en = .ok (.nx (en.set i (some (.lst (l ++ [d]))))) := by
  unfold sAppO
  rw [h, bnd_ok, h2, bnd_ok, if_pos ⟨by rw [sizeLine_eq]; omega, hd⟩]
theorem sSubO_of {i n : Nat} {l : List D} {j : Int} {ev : EvE} {en : En} {d : D} (h : getL i en = .ok l) (h2 : ev en = .ok d) (hn : ixN l.length j = some n) (hd : isLD d = true) : sSubO i j ev en = .ok (.nx (en.set i (some (.lst (l.set n d))))) := by
  unfold sSubO
  rw [h, bnd_ok, h2, bnd_ok, hn]
  dsimp only
  rw [if_pos hd]
theorem eFi_ofT {ev : EvE} {en : En} {d : D} (h : ev en = .ok d) (hf : flatIn d = true) : eFi ev en = .ok d := by
  unfold eFi
  rw [h, bnd_ok, if_pos hf]
theorem flatL_map {α : Type} {f : α → D} (hf : ∀ a, flat (f a) = true) : ∀ l : List α, flat.flatL (l.map f) = true
  | [] => rfl
  | a :: l => by
    show (flat (f a) && flat.flatL (l.map f)) = true
    rw [hf a, flatL_map hf l]
    rfl
theorem flat_rwT (n : Nat) (a : RowQ) : flatIn (.lst (rwL n a)) = true := flatL_map (fun j => flat_rD (a j)) (List.range n)
theorem flRows_mt (m n : Nat) (A : Mat) : flRows (mtD m n A) = true := by
  show (mtL m n A).all flatIn = true
  unfold mtL
  rw [List.all_map, List.all_eq_true]
  intro i _
  exact flat_rwT n (A i)
theorem ptabT_eq (ns : List Int) : ∃ (w : Bool) (m n : Nat) (A : Mat), f_ptabT [.scr ns] = .ok (.tup [mtD m n A, .int (n : Nat), .bl w]) ∧ 1 ≤ n ∧ n ≤ 7 ∧ m ≤ dT w ∧ ∀ i, i < m → ∀ j, j < n → Qn (dM w) (dC w + 1) (A i j) := by
  obtain ⟨c0, ec0⟩ := kcell_eq ns 0
  obtain ⟨X, hX, eX⟩ := drawn_eq c0 (bs := [6, 7, 8]) (by simp) (by
    intro b hb
    have : b = 6 ∨ b = 7 ∨ b = 8 := by simpa using hb
    rcases this with e | e | e <;> (rw [e]; exact ⟨by decide, B.mono (m := 40) (by unfold B; decide) (by decide)⟩))
  obtain ⟨x, y, z, hx, hy, hz, rfl⟩ : ∃ x y z : Nat, x < 6 ∧ y < 7 ∧ z < 8 ∧ X = [(x : Int), (y : Int), (z : Int)] := by
    cases hX with
    | cons h1 h2 hX => cases hX with
      | cons h3 h4 hX => cases hX with
        | cons h5 h6 hX => cases hX with
          | nil => rename_i a b c; exact ⟨a.toNat, b.toNat, c.toNat, by omega, by omega, by omega, by rw [Int.toNat_of_nonneg h1, Int.toNat_of_nonneg h3, Int.toNat_of_nonneg h5]⟩
  let w : Bool := decide ((z : Int) = 3)
  let n : Nat := 1 + y
  let m : Nat := if w = true then min x 2 else x
  have mT : m ≤ dT w := by
    show (if w = true then min x 2 else x) ≤ if w = true then 2 else 5
    split <;> omega
  let env : Mat → Option D → Option D → Option D → Nat → En := fun A o5 o6 o7 i => [some (.scr ns), some (.lst [.int x, .int y, .int z]), some (.bl w), some (.int (n : Nat)), some (.lst (mtL i n A)), o5, o6, o7]
  obtain ⟨en', lp, A, o5, rfl, hA⟩ := evFor_rng (set := set1 5) (body := (sAppO 4 (eCall f_pnum (aCons (eCall f_kcell (aCons (eVar 0) (aCons (eB2 oAdd (eC (.int 1)) (eVar 5)) aNil))) (aCons (eVar 3) (aCons (eVar 2) aNil)))))) (q := fun i => .int (i : Nat)) m
    (fun i en => ∃ A o5, en = env A o5 none none i ∧ ∀ i', i' < i → ∀ j, j < n → Qn (dM w) (dC w) (A i' j))
    (env (fun _ _ => 0) none none none 0) ⟨_, none, rfl, fun i' h => by omega⟩ (by
      rintro i en hi ⟨A, o5, rfl, hA⟩
      have hi5 : i < 5 := by have : dT w ≤ 5 := by (show (if w = true then 2 else 5) ≤ 5); split <;> omega
                             omega
      obtain ⟨cz, ecz⟩ := kcell_eq ns (1 + i)
      obtain ⟨r, er, hr⟩ := pnum_eq cz (n := n) (by omega) w
      refine ⟨env A (some (.int (i : Nat))) none none i, rfl, _, sAppO_of (l := mtL i n A) rfl (eCall3_of (eCall2_of rfl (eB2_of rfl rfl (oAdd_int 1 (i : Nat))) (by rw [show (1 : Int) + (i : Nat) = ((1 + i : Nat) : Int) by omega]; exact ecz)) rfl rfl er) (by rw [mtL_len]; omega) rfl, upd1 A i r, some (.int (i : Nat)), ?_, ?_⟩
      · rw [mtL_snoc]
        rfl
      · intro i' hi' j hj
        unfold upd1
        by_cases e : i' = i
        · rw [if_pos e]; exact hr j hj
        · rw [if_neg e]; exact hA i' (by omega) j hj)
  have hA1 : ∀ i, i < m → ∀ j, j < n → Qn (dM w) (dC w + 1) (A i j) := fun i hi j hj => (hA i hi j hj).mono (by omega)
  have dm0 : dM w ≠ 0 := by have := dM_pos w; omega
  have m5 : m ≤ 5 := by have : dT w ≤ 5 := by (show (if w = true then 2 else 5) ≤ 5); split <;> omega
                        omega
  -- the last row the first one again
  obtain ⟨A2, e2, hA2⟩ : ∃ A2 : Mat, sIf (tAn (tV (eB2 oEq (eB2 oIx (eVar 1) (eC (.int 2))) (eC (.int 5)))) (tV (eB2 oGt (eBi oLen (aCons (eVar 4) aNil)) (eC (.int 1))))) (sSubO 4 (-1) (eFi (eBi oList (aCons (eB2 oIx (eVar 4) (eC (.int 0))) aNil)))) sNil (env A o5 none none m) = .ok (.nx (env A2 o5 none none m)) ∧ ((m ≤ 2 ∨ z ≠ 6 → True) ∧ ∀ i, i < m → ∀ j, j < n → Qn (dM w) (dC w) (A2 i j)) := by
    have t1 : tV (eB2 oEq (eB2 oIx (eVar 1) (eC (.int 2))) (eC (.int 5))) (env A o5 none none m) = .ok (decide ((z : Int) = 5)) := tV_of (eB2_of (x := .int z) (eB2_of rfl rfl rfl) rfl (oEq_int _ _))
    by_cases h5 : (z : Int) = 5
    · rw [decide_eq_true h5] at t1
      by_cases hm : 1 < m
      · refine ⟨upd1 A (m - 1) (A 0), ?_, fun _ => trivial, fun i hi j hj => ?_⟩
        · rw [sIf_tt (tAn_t t1 (tV_of (b := true) (eB2_of (eBi1_of rfl (oLen_lst _)) rfl (oGt_t (by rw [mtL_len]; omega))))) (sSubO_of (i := 4) (l := mtL m n A) (n := m - 1) rfl (eFi_ofT (eBi1_of (eB2_of rfl rfl (oIx_mt (i := 0) (by omega))) (oList_lst _)) (flat_rwT n (A 0))) (by rw [mtL_len]; exact ixN_last (by omega)) rfl)]
          rw [show (D.lst (rwL n (A 0))) = rwD n (A 0) from rfl, mtL_set]
          rfl
        · unfold upd1
          split
          · exact hA 0 (by omega) j hj
          · exact hA i hi j hj
      · exact ⟨A, sIf_ff (tAn_t t1 (tV_of (b := false) (eB2_of (eBi1_of rfl (oLen_lst _)) rfl (oGt_f (by rw [mtL_len]; omega))))), fun _ => trivial, hA⟩
    · rw [decide_eq_false h5] at t1
      exact ⟨A, sIf_ff (tAn_f t1), fun _ => trivial, hA⟩
  -- the last row the sum of the first two
  obtain ⟨A3, o6, o7, e3, hA3⟩ : ∃ (A3 : Mat) (o6 o7 : Option D), sIf (tAn (tV (eB2 oEq (eB2 oIx (eVar 1) (eC (.int 2))) (eC (.int 6)))) (tV (eB2 oGt (eBi oLen (aCons (eVar 4) aNil)) (eC (.int 2))))) (sSubO 4 (-1) (eLc [6, 7] (iZp (aCons (eB2 oIx (eVar 4) (eC (.int 0))) (aCons (eB2 oIx (eVar 4) (eC (.int 1))) aNil))) (setT [6, 7]) (fun _ => .ok true) (eCall f_pplus (aCons (eVar 6) (aCons (eVar 7) aNil))))) sNil (env A2 o5 none none m) = .ok (.nx (env A3 o5 o6 o7 m)) ∧ ∀ i, i < m → ∀ j, j < n → Qn (dM w) (dC w + 1) (A3 i j) := by
    have t1 : tV (eB2 oEq (eB2 oIx (eVar 1) (eC (.int 2))) (eC (.int 6))) (env A2 o5 none none m) = .ok (decide ((z : Int) = 6)) := tV_of (eB2_of (x := .int z) (eB2_of rfl rfl rfl) rfl (oEq_int _ _))
    have up : ∀ i, i < m → ∀ j, j < n → Qn (dM w) (dC w + 1) (A2 i j) := fun i hi j hj => (hA2.2 i hi j hj).mono (by omega)
    by_cases h5 : (z : Int) = 6
    · rw [decide_eq_true h5] at t1
      by_cases hm : 2 < m
      · let s : RowQ := fun j => A2 0 j + A2 1 j
        refine ⟨upd1 A2 (m - 1) s, none, none, ?_, fun i hi j hj => ?_⟩
        · have bd : ∀ i, i < m → ∀ j, j < n → Rb (dC w) (dD w) (A2 i j) := fun i hi j hj => (hA2.2 i hi j hj).rb dm0 (dM_b w)
          have c1 : dC w ≤ 115 ∧ dD w ≤ 84 := by cases w <;> exact ⟨by decide, by decide⟩
          have lc : eLc [6, 7] (iZp (aCons (eB2 oIx (eVar 4) (eC (.int 0))) (aCons (eB2 oIx (eVar 4) (eC (.int 1))) aNil))) (setT [6, 7]) (fun _ => .ok true) (eCall f_pplus (aCons (eVar 6) (aCons (eVar 7) aNil))) (env A2 o5 none none m) = .ok (rwD n s) := by
            refine eLc_ap (l := rwL n s) (iZp_of (x := rwL n (A2 0)) (y := rwL n (A2 1)) (eB2_of rfl rfl (oIx_mt (i := 0) (by omega))) (eB2_of rfl rfl (oIx_mt (i := 1) (by omega)))) ?_ (by rw [rwL_len]; omega)
            unfold rwL
            rw [zip_maps]
            exact evLc_map (q := fun j => .tup [rD (A2 0 j), rD (A2 1 j)]) (r := fun j => rD (s j)) (List.range n) fun j hj => ⟨_, rfl, eCall2_of rfl rfl (pplus_eq (bd 0 (by omega) j (List.mem_range.mp hj)) (bd 1 (by omega) j (List.mem_range.mp hj)) (by omega) (by omega) (by omega))⟩
          rw [sIf_tt (tAn_t t1 (tV_of (b := true) (eB2_of (eBi1_of rfl (oLen_lst _)) rfl (oGt_t (by rw [mtL_len]; omega))))) (sSubO_of (i := 4) (l := mtL m n A2) (n := m - 1) rfl lc (by rw [mtL_len]; exact ixN_last (by omega)) rfl)]
          rw [mtL_set]
          rfl
        · unfold upd1
          split
          · exact (hA2.2 0 (by omega) j hj).add dm0 (hA2.2 1 (by omega) j hj) (Nat.le_refl _)
          · exact up i hi j hj
      · exact ⟨A2, none, none, sIf_ff (tAn_t t1 (tV_of (b := false) (eB2_of (eBi1_of rfl (oLen_lst _)) rfl (oGt_f (by rw [mtL_len]; omega))))), up⟩
    · rw [decide_eq_false h5] at t1
      exact ⟨A2, none, none, sIf_ff (tAn_f t1), up⟩
  refine ⟨w, m, n, A3, ?_, by omega, by omega, mT, hA3⟩
  show s_ptabT [some (.scr ns), none, none, none, none, none, none, none] = _
  unfold s_ptabT
  refine rstep (en' := [some (.scr ns), some (.lst [.int x, .int y, .int z]), none, none, none, none, none, none]) (sAs_of (eCall2_of (eCall2_of rfl rfl ec0) rfl eX)) ?_
  refine rstep (en' := [some (.scr ns), some (.lst [.int x, .int y, .int z]), some (.bl w), none, none, none, none, none]) (sAs_of (eB2_of (x := .int z) (eB2_of rfl rfl rfl) rfl (oEq_int _ _))) ?_
  refine rstep (en' := [some (.scr ns), some (.lst [.int x, .int y, .int z]), some (.bl w), some (.int (n : Nat)), none, none, none, none]) (sAs_of (eB2_of rfl (eB2_of (z := .int y) rfl rfl rfl) (by rw [oAdd_int]; rfl))) ?_
  refine rstep (en' := env (fun _ _ => 0) none none none 0) rfl ?_
  refine rstep (sFor_of (iRn1_of (i := .int (m : Nat)) ?_ (oRng_nat (by omega))) lp) ?_
  · have mn : oMin [.int x, .int 2] = some (.int (min x 2 : Nat)) := by
      show some (D.int (if (2 : Int) < x then 2 else x)) = _
      congr 2
      split <;> omega
    have e1 : eLst (aCons (eB2 oIx (eVar 1) (eC (.int 0))) (aCons (eBi oMin (aCons (eB2 oIx (eVar 1) (eC (.int 0))) (aCons (eC (.int 2)) aNil))) aNil)) (env (fun _ _ => 0) none none none 0) = .ok (.lst [.int x, .int (min x 2 : Nat)]) := by
      rw [eLst_ap, aC_of (eB2_of (z := .int x) rfl rfl rfl) (aC_of (d := .int (min x 2 : Nat)) (by rw [eBi_ap, aC_of (eB2_of (z := .int x) rfl rfl rfl) (aC_of rfl rfl), bnd_ok, mn]; rfl) rfl)]
      rfl
    refine eB2_of e1 (eBi1_of rfl (oInt_bl w)) ?_
    show _ = some (D.int ((if w = true then min x 2 else x : Nat) : Int))
    cases hw : w
    · rfl
    · rfl
  refine rstep e2 ?_
  refine rstep e3 ?_
  unfold eTupO
  show (if flRows (mtD m n A3) = true then _ else _) = _
  rw [if_pos (flRows_mt m n A3)]
  rfl
def mixM (A A' : Mat) (p : Nat) : Mat := fun q => if q < p then A' q else A q
theorem evRows_eq {i j m n : Nat} {b : EvS} {A A' : Mat} {P : Nat → En → Prop} (h0 : ∀ p en, p ≤ m → P p en → en[i]? = some (some (mtD m n (mixM A A' p)))) (h1 : ∀ p en, p < m → P p en → ∃ en', b (en.set j (some (rwD n (A p)))) = .ok (.nx en') ∧ en'[j]? = some (some (rwD n (A' p))) ∧ P (p + 1) (en'.set i (some (mtD m n (mixM A A' (p + 1)))))) :
    ∀ (k p : Nat) (en : En), p + k = m → P p en → ∃ en', evRows i j b k p en = .ok (.nx en') ∧ P m en'
  | 0, p, en, e, hp => ⟨en, rfl, by rw [← e]; exact hp⟩
  | k + 1, p, en, e, hp => by
    have hlt : p < m := by omega
    have e1 : en[i]? = some (some (.lst (mtL m n (mixM A A' p)))) := h0 p en (by omega) hp
    obtain ⟨en', hb, hj, hn⟩ := h1 p en hlt hp
    obtain ⟨en'', q1, q2⟩ := evRows_eq h0 h1 k (p + 1) _ (by omega) hn
    refine ⟨en'', ?_, q2⟩
    have e2 : (mtL m n (mixM A A' p))[p]? = some (.lst (rwL n (A p))) := by
      unfold mtL
      rw [List.getElem?_map, List.getElem?_range hlt]
      show some (rwD n (if p < p then A' p else A p)) = _
      rw [if_neg (Nat.lt_irrefl p)]
      rfl
    have e3 : (mtL m n (mixM A A' p)).set p (.lst (rwL n (A' p))) = mtL m n (mixM A A' (p + 1)) := by
      rw [show (D.lst (rwL n (A' p))) = rwD n (A' p) from rfl, mtL_set]
      refine mtL_congr fun q hq c hc => ?_
      unfold upd1 mixM
      by_cases z : q = p
      · rw [if_pos z, if_pos (show q < p + 1 by omega), z]
      · rw [if_neg z]
        by_cases y : q < p
        · rw [if_pos y, if_pos (show q < p + 1 by omega)]
        · rw [if_neg y, if_neg (show ¬ q < p + 1 by omega)]
    unfold evRows
    rw [e1]
    dsimp only
    rw [e2]
    dsimp only
    rw [show b (en.set j (some (.lst (rwL n (A p))))) = _ from hb]
    show bnd (Except.ok (Fl.nx en')) _ = _
    rw [bnd_ok]
    dsimp only
    rw [show en'[j]? = some (some (.lst (rwL n (A' p)))) from hj]
    dsimp only
    rw [e3]
    exact q1
theorem rows_loop {i j m n : Nat} {b : EvS} {A A' : Mat} {P : Nat → En → Prop} {en : En} (h0 : ∀ p en, p ≤ m → P p en → en[i]? = some (some (mtD m n (mixM A A' p)))) (h1 : ∀ p en, p < m → P p en → ∃ en', b (en.set j (some (rwD n (A p)))) = .ok (.nx en') ∧ en'[j]? = some (some (rwD n (A' p))) ∧ P (p + 1) (en'.set i (some (mtD m n (mixM A A' (p + 1)))))) (hp : P 0 en) :
    ∃ en', sForRows i j b en = .ok (.nx en') ∧ P m en' := by
  obtain ⟨en', q1, q2⟩ := evRows_eq h0 h1 m 0 en (by omega) hp
  refine ⟨en', ?_, q2⟩
  unfold sForRows
  rw [show en[i]? = some (some (.lst (mtL m n (mixM A A' 0)))) from h0 0 en (Nat.zero_le _) hp]
  dsimp only
  rw [mtL_len]
  exact q1
theorem mtD_mix0 (m n : Nat) (A A' : Mat) : mtD m n (mixM A A' 0) = mtD m n A := by
  show D.lst _ = D.lst _
  rw [mtL_congr fun q _ c _ => show mixM A A' 0 q c = A q c by unfold mixM; rw [if_neg (Nat.not_lt_zero q)]]
theorem mtD_mixm (m n : Nat) (A A' : Mat) : mtD m n (mixM A A' m) = mtD m n A' := by
  show D.lst _ = D.lst _
  rw [mtL_congr fun q hq c _ => show mixM A A' m q c = A' q c by unfold mixM; rw [if_pos hq]]
theorem rD_neg (q : Rat) : rD (-q) = .tup [.int (0 - q.num), .int (q.den : Int)] := by
  unfold rD
  rw [Rat.neg_num, Rat.neg_den, Int.zero_sub]
theorem eSl_m1 {a : EvE} {en : En} {n : Nat} {r : RowQ} (h : a en = .ok (rwD (n + 1) r)) : eSl a oNo (oYes (eU1 oNeg (eC (.int 1)))) en = .ok (rwD n r) := by
  have h' : a en = .ok (.lst (rwL (n + 1) r)) := h
  have c : Pi.cutD (rwL (n + 1) r) none (some (-1)) = rwL n r := by
    unfold Pi.cutD
    rw [rwL_len]
    have s0 : HT.sIx (n + 1) 0 none = 0 := by simp [HT.sIx]
    have s1 : HT.sIx (n + 1) (n + 1) (some (-1)) = n := by
      unfold HT.sIx
      simp
      omega
    rw [s0, s1, List.drop_zero, Nat.sub_zero]
    exact rwL_take n 1 r
  rw [eSl_ap, h', bnd_ok]
  show ofO (some (D.lst (Pi.cutD (rwL (n + 1) r) none (some (-1))))) = _
  rw [c]
  rfl
theorem rwL_1 (n : Nat) (r : RowQ) : rwL n r ++ [.tup [.int 1, .int 1]] = rwL (n + 1) (upd1 r n 1) := by
  rw [← rwL_snoc]
  rfl
end Co
end
noncomputable section
namespace Lk54
open PySem PySem.Spec PyProof.Rows L2 Pi Co
theorem x_cell : f__law_cell_at = f_kcell := rfl
theorem x_low : f__law_low = f_plow := rfl
theorem x_plus : f__law_plus = f_pplus := rfl
theorem x_less : f__law_less = f_pless := rfl
theorem x_dot : f__law_dot = f_pdot := rfl
theorem x_num : f__law_numbers = f_pnum := rfl
theorem x_atl : f__law_at_least = f_patl := rfl
theorem x_tab : f__law_table = f_ptabT := rfl
theorem x_least : f_least = f_leastE 0 0 := rfl
theorem x_holds : f__law_holds = f_pholds := rfl
theorem x_asked : f__law_asked = f_pasked 0 0 := rfl
abbrev env (ns : List Int) (w : Bool) (m n : Nat) (A : Mat) (o4 o5 o6 o7 o8 o9 o10 : Option D) : En := [some (.scr ns), some (mtD m n A), some (.int (n : Nat)), some (.bl w), o4, o5, o6, o7, o8, o9, o10]
theorem env_c {ns : List Int} {w : Bool} {m n : Nat} {A B : Mat} {o4 o5 o6 o7 o8 o9 o10 : Option D} (h : mtD m n A = mtD m n B) : env ns w m n A o4 o5 o6 o7 o8 o9 o10 = env ns w m n B o4 o5 o6 o7 o8 o9 o10 := by
  show [some (.scr ns), some (mtD m n A), some (.int (n : Nat)), some (.bl w), o4, o5, o6, o7, o8, o9, o10] = _
  rw [h]
def mnd (A : Mat) (y : RowQ) (N : Nat) : Mat := fun i => upd1 (A i) N (-S (A i) y N)
theorem mnd_0 {A : Mat} {y : RowQ} {N i : Nat} (h1 : y N = 1) : S (mnd A y N i) y (N + 1) = 0 := by
  have e : S (mnd A y N i) y N = S (A i) y N := S_congr fun j hj => by unfold mnd upd1; rw [if_neg (by omega)]
  show S (mnd A y N i) y N + mnd A y N i N * y N = 0
  rw [e, h1]
  unfold mnd upd1
  rw [if_pos rfl]
  grind
abbrev bR : EvS := (sSeq (sAs 6 (eFl (eCall f__law_dot (aCons (eSl (eVar 5) oNo (oYes (eU1 oNeg (eC (.int 1))))) (aCons (eSl (eVar 4) oNo (oYes (eU1 oNeg (eC (.int 1))))) aNil)))))
  (sSub 5 (eU1 oNeg (eC (.int 1))) (eTup (aCons (eB2 oSub (eC (.int 0)) (eB2 oIx (eVar 6) (eC (.int 0)))) (aCons (eB2 oIx (eVar 6) (eC (.int 1))) aNil)))))
theorem rows_k {ns : List Int} {w : Bool} {m N s t : Nat} {A : Mat} {y : RowQ} {o5 o6 o7 o8 o9 o10 : Option D} (hA : Ra s t m (N + 1) A) (hy : Co.Rw 7 4 (N + 1) y) (ht : 2 * (t + 4) ≤ 8900) (hs : s + 7 < 100000) (hN : N < 999) :
    ∃ o5' o6', sForRows 1 5 bR (env ns w m (N + 1) A (some (rwD (N + 1) y)) o5 o6 o7 o8 o9 o10) = .ok (.nx (env ns w m (N + 1) (mnd A y N) (some (rwD (N + 1) y)) o5' o6' o7 o8 o9 o10)) := by
  obtain ⟨en', q1, o5', o6', e⟩ := rows_loop (i := 1) (j := 5) (m := m) (n := N + 1) (b := bR) (A := A) (A' := mnd A y N) (P := fun q en => ∃ o5' o6', en = env ns w m (N + 1) (mixM A (mnd A y N) q) (some (rwD (N + 1) y)) o5' o6' o7 o8 o9 o10) (en := env ns w m (N + 1) A (some (rwD (N + 1) y)) o5 o6 o7 o8 o9 o10)
    (fun q en hq ⟨o, o', e⟩ => by rw [e]; rfl) (fun q en hq ⟨o, o', e⟩ => by
      subst e
      have rq := hA.rw hq
      obtain ⟨M1, z1, z2, z3⟩ := rq
      obtain ⟨M2, y1, y2, y3⟩ := hy
      have dt := pdotQ (s := s) (t := t) (s' := 7) (t' := 4) (a := A q) (b := y) (k := N) ⟨M1, z1, z2, fun j hj => z3 j (by omega)⟩ ⟨M2, y1, y2, fun j hj => y3 j (by omega)⟩ ht hs (by omega)
      refine ⟨env ns w m (N + 1) (mixM A (mnd A y N) q) (some (rwD (N + 1) y)) (some (rwD (N + 1) (mnd A y N q))) (some (rD (S (A q) y N))) o7 o8 o9 o10, ?_, rfl, some (rwD (N + 1) (mnd A y N q)), some (rD (S (A q) y N)), rfl⟩
      show bR (env ns w m (N + 1) (mixM A (mnd A y N) q) (some (rwD (N + 1) y)) (some (rwD (N + 1) (A q))) o' o7 o8 o9 o10) = _
      have e1 : sAs 6 (eFl (eCall f__law_dot (aCons (eSl (eVar 5) oNo (oYes (eU1 oNeg (eC (.int 1))))) (aCons (eSl (eVar 4) oNo (oYes (eU1 oNeg (eC (.int 1))))) aNil)))) (env ns w m (N + 1) (mixM A (mnd A y N) q) (some (rwD (N + 1) y)) (some (rwD (N + 1) (A q))) o' o7 o8 o9 o10) = .ok (.nx (env ns w m (N + 1) (mixM A (mnd A y N) q) (some (rwD (N + 1) y)) (some (rwD (N + 1) (A q))) (some (rD (S (A q) y N))) o7 o8 o9 o10)) :=
        sAs_of (eFl_of (eCall2_of (eSl_m1 (n := N) (r := A q) rfl) (eSl_m1 (n := N) (r := y) rfl) (show f__law_dot _ = _ from dt)) (flat_rD _))
      refine (seq_nx e1).trans ?_
      have st := sSub_nat (i := 5) (l := rwL (N + 1) (A q)) (n := N) (j := -1) (en := env ns w m (N + 1) (mixM A (mnd A y N) q) (some (rwD (N + 1) y)) (some (rwD (N + 1) (A q))) (some (rD (S (A q) y N))) o7 o8 o9 o10) (ek := eU1 oNeg (eC (.int 1))) (ev := eTup (aCons (eB2 oSub (eC (.int 0)) (eB2 oIx (eVar 6) (eC (.int 0)))) (aCons (eB2 oIx (eVar 6) (eC (.int 1))) aNil))) (d := rD (-S (A q) y N)) rfl
        (by rw [rD_neg]; exact eTup_of (aC_of (eB2_of rfl (eB2_of (x := rD (S (A q) y N)) rfl rfl (oIx_r0 _)) (oSub_int _ _)) (aC_of (eB2_of (x := rD (S (A q) y N)) (z := .int ((S (A q) y N).den : Int)) rfl rfl rfl) rfl))) rfl (by rw [rwL_len]; exact ixN_last (by omega))
      rw [rwL_set] at st
      exact st) ⟨o5, o6, env_c (mtD_mix0 m (N + 1) A _).symm⟩
  rw [e, env_c (mtD_mixm m (N + 1) A _)] at q1
  exact ⟨o5', o6', q1⟩
theorem law_plain (ns : List Int) (hn : ns.length ≤ 63) (hb : bitsLe ns) : f_law [.scr ns] = .ok (.bl true) := by
  obtain ⟨w, m, n, A, et, n1, n7, mT, hA⟩ := ptabT_eq ns
  obtain ⟨N, rfl⟩ : ∃ N, n = N + 1 := ⟨n - 1, by omega⟩
  have cw : dC w ≤ 115 ∧ dD w ≤ 84 ∧ dD w ≤ dC w ∧ 1 ≤ dD w ∧ 1 ≤ dC w ∧ dT w ≤ 5 ∧ 1 ≤ dT w := by cases w <;> decide
  have dm := dM_pos w
  have dm0 : dM w ≠ 0 := by omega
  have bM := dM_b w
  have m5 : m ≤ 5 := by omega
  have m12 : 0 < dM w * 12 := by omega
  have bM12 : B (dD w + 4) (dM w * 12) := bM.mul (dM_b false)
  have rA : Ra (dC w + 1) (dD w) m (N + 1) A := ⟨dM w, dm, bM, hA⟩
  -- the way
  obtain ⟨c8, ec8⟩ := kcell_eq ns 8
  obtain ⟨q, eq, hq⟩ := pnum_eq c8 n7 false
  let y : RowQ := upd1 (fun j => qabs (q j)) N 1
  have yN : y N = 1 := by show upd1 _ N 1 N = 1; unfold upd1; rw [if_pos rfl]
  have hy : ∀ j, j < N + 1 → Qn 12 7 (y j) := fun j hj => by
    show Qn 12 7 (upd1 _ N 1 j)
    unfold upd1
    split
    · exact (Qn.one (M := 12) (by decide) (show B 4 12 by unfold B; decide)).mono (by decide)
    · exact (hq j hj).absq
  have ynn : ∀ j, j < N + 1 → 0 ≤ y j := fun j hj => by
    show 0 ≤ upd1 _ N 1 j
    unfold upd1
    split
    · decide
    · exact qabs_nn _
  have ry : Co.Rw 7 4 (N + 1) y := ⟨12, by decide, dM_b false, hy⟩
  obtain ⟨o5, o6, lp⟩ := rows_k (ns := ns) (w := w) (y := y) (o5 := none) (o6 := none) (o7 := none) (o8 := none) (o9 := none) (o10 := none) rA ry (by omega) (by omega) (by omega)
  have hR : ∀ i, i < m → ∀ j, j < N + 1 → Qn (dM w * 12) (dC w + 15) (mnd A y N i j) := fun i hi j hj => by
    unfold mnd upd1
    split
    · exact ((S_qn (n := N) (c := dC w + 1 + 7) (x := A i) (y := y) (M := dM w * 12) (by omega) (fun j hj => (hA i hi j (by omega)).mul (hy j (by omega))) N (Nat.le_refl _)).mono (by omega)).neg
    · exact ((hA i hi j hj).up (by decide) (dM_b false)).mono (by have : dD false = 4 := rfl; omega)
  have rR1 : Ra (dC w + 15) (dD w + 4) m (N + 1) (mnd A y N) := ⟨dM w * 12, m12, bM12, hR⟩
  -- a solution, the rights
  obtain ⟨c9, ec9⟩ := kcell_eq ns 9
  obtain ⟨x0, ex, hx⟩ := pnum_eq c9 n7 w
  let x : RowQ := fun j => qabs (x0 j)
  have rx : Co.Rw (dC w) (dD w) (N + 1) x := ⟨dM w, dm, bM, fun j hj => (hx j hj).absq⟩
  let b : RowQ := fun i => S (mnd A y N i) x (N + 1)
  have mmm : 0 < dM w * 12 * dM w := Int.mul_pos m12 dm
  have bMM : B (dD w + 4 + dD w) (dM w * 12 * dM w) := bM12.mul bM
  have hb0 : ∀ i, i < m → Qn (dM w * 12 * dM w) (2 * dC w + 22) (b i) := fun i hi => (S_qn (n := N + 1) (c := dC w + 15 + dC w) (x := mnd A y N i) (y := x) (M := dM w * 12 * dM w) (by omega) (fun j hj => (hR i hi j hj).mul (hx j hj).absq) (N + 1) (Nat.le_refl _)).mono (by omega)
  have rb : Co.Rw (2 * dC w + 22) (2 * dD w + 4) m b := ⟨dM w * 12 * dM w, mmm, bMM.mono (by omega), hb0⟩
  have rR : Ra (2 * dC w + 22) (2 * dD w + 4) m (N + 2) (aug (N + 1) (mnd A y N) b) := ⟨dM w * 12 * dM w, mmm, bMM.mono (by omega), fun i hi j hj => by
    unfold aug upd1
    split
    · exact hb0 i hi
    · exact ((hR i hi j (by omega)).up dm0 bM).mono (by omega)⟩
  -- the costs
  obtain ⟨c10, ec10⟩ := kcell_eq ns 10
  obtain ⟨k, ek, hk⟩ := pnum_eq c10 n7 w
  have rk : Co.Rw (dC w) (dD w) (N + 1) k := ⟨dM w, dm, bM, hk⟩
  have qrest : Qn (dM w * 12) (dC w + 7 + N) (S k y N) := S_qn (n := N) (c := dC w + 7) (x := k) (y := y) (M := dM w * 12) (by omega) (fun j hj => (hk j (by omega)).mul (hy j (by omega))) N (Nat.le_refl _)
  have rrest : Rb (dC w + 13) (dD w + 4) (S k y N) := (qrest.rb (by omega) bM12).mono (by omega) (Nat.le_refl _)
  have dt := pdotQ (s := dC w) (t := dD w) (s' := 7) (t' := 4) (a := k) (b := y) (k := N) ⟨dM w, dm, bM, fun j hj => hk j (by omega)⟩ ⟨12, by decide, dM_b false, fun j hj => hy j (by omega)⟩ (by omega) (by omega) (by omega)
  obtain ⟨c11, ec11⟩ := kcell_eq ns 11
  obtain ⟨r1, h1, e1⟩ : ∃ r : Nat, r < 7 ∧ c11.fmod 7 = (r : Nat) := by
    have a0 := Int.fmod_nonneg_of_pos c11 (b := 7) (by decide)
    have a1 := Int.fmod_lt_of_pos c11 (b := 7) (by decide)
    exact ⟨(c11.fmod 7).toNat, by omega, by omega⟩
  obtain ⟨r2, h2, e2⟩ : ∃ r : Nat, r < 5 ∧ (c11.fdiv 7).fmod 5 = (r : Nat) := by
    have a0 := Int.fmod_nonneg_of_pos (c11.fdiv 7) (b := 5) (by decide)
    have a1 := Int.fmod_lt_of_pos (c11.fdiv 7) (b := 5) (by decide)
    exact ⟨((c11.fdiv 7).fmod 5).toNat, by omega, by omega⟩
  have d7 : oDiv (.int c11) (.int 7) = some (.int (c11.fdiv 7)) := oDiv_int (divOk_of (m := 5) (by decide) (by decide) (by decide) (by decide))
  let l : Rat := Rat.divInt (1 + (r1 : Nat)) (1 + (r2 : Nat))
  have el : f_plow [.int (1 + (r1 : Nat)), .int (1 + (r2 : Nat))] = .ok (rD l) := plow_eq (by omega) (B.mono (m := 4) (by unfold B; omega) (by decide))
  have rl : Rb 4 4 l ∧ 0 < l := by
    have q0 : (0 : Int) < 1 + (r2 : Nat) := by omega
    obtain ⟨n1, n2⟩ := num_of (t := 1 + (r1 : Nat)) (b := 1 + (r2 : Nat)) (by omega)
    refine ⟨⟨?_, ?_⟩, ?_⟩
    · show B 4 (Rat.divInt _ _).num
      rw [n1]
      exact (show B 4 (1 + (r1 : Nat) : Int) by unfold B; omega).le (nu_le (by omega))
    · show B 4 ((Rat.divInt _ _).den : Int)
      rw [n2]
      exact (show B 4 (1 + (r2 : Nat) : Int) by unfold B; omega).le (de_le (by omega))
    · rw [← num_gt]
      show 0 < (Rat.divInt _ _).num
      rw [n1]
      have mu := nu_mul (t := 1 + (r1 : Nat)) (b := 1 + (r2 : Nat)) (by omega)
      have mb := de_mul (t := 1 + (r1 : Nat)) (b := 1 + (r2 : Nat)) (by omega)
      have dp := de_pos (t := 1 + (r1 : Nat)) (b := 1 + (r2 : Nat)) (by omega)
      have pp : 0 < prt (1 + (r1 : Nat)) (1 + (r2 : Nat)) := by
        rcases Int.lt_trichotomy (prt (1 + (r1 : Nat)) (1 + (r2 : Nat))) 0 with z | z | z
        · exfalso
          have := Int.mul_neg_of_neg_of_pos z dp
          omega
        · rw [z, Int.zero_mul] at mb; omega
        · exact z
      rcases Int.lt_trichotomy (nu (1 + (r1 : Nat)) (1 + (r2 : Nat))) 0 with z | z | z
      · exfalso
        have := Int.mul_neg_of_pos_of_neg pp z
        omega
      · rw [z, Int.mul_zero] at mu; omega
      · exact z
  have bneg : Rb (dC w + 13) (dD w + 4) (-S k y N) := rrest.neg
  have els := pless_eq bneg rl.1 (by omega) (by omega) (by omega)
  let z : Rat := -S k y N - l
  let cs : RowQ := upd1 k N z
  let L : Int := l.den
  have L0 : 0 < L := den_pos l
  have qz : Qn (dM w * 12 * L) (dC w + dD w + 19) z := by
    have ql : Qn L 4 l := ⟨l.num, by rw [Rat.num_divInt_den], rl.1.num⟩
    have q2 := (ql.upl m12 bM12).mono (show dD w + 4 + 4 ≤ dC w + dD w + 18 by omega)
    have q1 := ((qrest.neg).up (L := L) (by omega) rl.1.den).mono (show dC w + 7 + N + 4 ≤ dC w + dD w + 18 by omega)
    exact q1.sub (by have := Int.mul_pos m12 L0; omega) q2 (Nat.le_refl _)
  have rc : Co.Rw (dC w + dD w + 19) (dD w + 8) (N + 1) cs := ⟨dM w * 12 * L, Int.mul_pos m12 L0, (bM12.mul rl.1.den).mono (by omega), fun j hj => by
    show Qn _ _ (upd1 k N z j)
    unfold upd1
    split
    · exact qz
    · have := ((hk j hj).up (L := 12 * L) (by omega) ((show B 4 12 by unfold B; decide).mul rl.1.den)).mono (show dC w + (4 + 4) ≤ dC w + dD w + 19 by omega)
      rw [← Int.mul_assoc] at this
      exact this⟩
  have neg : S cs y (N + 1) < 0 := by
    have e : S cs y N = S k y N := S_congr fun j hj => by show upd1 k N z j * _ = _; unfold upd1; rw [if_neg (by omega)]
    show S cs y N + cs N * y N < 0
    have ez : cs N = z := by show upd1 k N z N = z; unfold upd1; rw [if_pos rfl]
    rw [e, yN, ez]
    have := rl.2
    show S k y N + (-S k y N - l) * 1 < 0
    grind
  have Ed : Edl (N + 1) m (mnd A y N) b cs x y := ⟨fun j hj => qabs_nn _, fun i hi => rfl, ynn, fun i hi => mnd_0 yN, neg⟩
  have sw : sP (2 * dC w + 22) (dT w) ≤ 1183 ∧ tP (2 * dC w + 22) (2 * dD w + 4) (dT w) ≤ 1154 := by cases w <;> decide
  have s1 := sP_mono (2 * dC w + 22) mT
  have t1 := tP_mono (2 * dC w + 22) (2 * dD w + 4) mT
  obtain ⟨d, ed, ans⟩ := pasked_eq (e := 0) (cl := 0) (u := 2 * dC w + dD w + 22) (vR := dD w + 4) (vb := 2 * dD w + 4) (vc := dD w + 8) (S' := 115 + 84 + 19 + 1183 + 1154 + 5 + (92 + 1154) + 2) (T := 92 + 1154 + 1) rR rc (by omega) (by omega) (by omega) (by omega)
    ⟨by omega, by omega, by omega, by omega, by omega, by omega, by omega, by omega, by omega, by omega⟩ ⟨by omega, by omega, by omega, by omega, by omega, by omega⟩ (rR1.mono (by omega) (Nat.le_refl _)) (rb.mono (by omega) (Nat.le_refl _)) (rc.mono (by omega) (Nat.le_refl _)) (by omega) (by omega)
  have dl : ∃ x' y', d = .tup [.str "endless", rwD (N + 1) x', rwD (N + 1) y'] := by
    cases ans with
    | least l => exact (Ed.not l.low).elim
    | none l => exact (l.not Ed.nn Ed.sol).elim
    | endless l => exact ⟨_, _, rfl⟩
  obtain ⟨x', y', rfl⟩ := dl
  show endR (s_law [some (.scr ns), none, none, none, none, none, none, none, none, none, none]) = _
  unfold s_law
  refine step_nx (en' := env ns w m (N + 1) A none none none none none none none) (sTu_of (ds := [mtD m (N + 1) A, .int ((N + 1 : Nat) : Int), .bl w]) (eCall1_of rfl et) rfl) ?_
  refine step_nx (en' := env ns w m (N + 1) A (some (rwD (N + 1) y)) none none none none none none) (sAs_of ?_) ?_
  · have e := eSl_m1 (n := N) (r := fun j => qabs (q j)) (en := env ns w m (N + 1) A none none none none none none none) (a := eCall f__law_at_least (aCons (eCall f__law_numbers (aCons (eCall f__law_cell_at (aCons (eVar 0) (aCons (eC (.int 8)) aNil))) (aCons (eVar 2) (aCons (eC (.bl false)) aNil)))) aNil)) (eCall1_of (eCall3_of (eCall2_of (fn := f__law_cell_at) rfl rfl ec8) rfl rfl (show f__law_numbers _ = _ from eq)) (patl_eq (by omega)))
    refine eB2_of e (y := .lst [.tup [.int 1, .int 1]]) rfl ?_
    have ad : oAdd (.lst (rwL N fun j => qabs (q j))) (.lst [.tup [.int 1, .int 1]]) = some (.lst (rwL N (fun j => qabs (q j)) ++ [.tup [.int 1, .int 1]])) := by
      show (if (rwL N _).length + _ ≤ sizeLine then _ else _) = _
      rw [if_pos (by rw [sizeLine_eq, rwL_len]; simp; omega)]
    rw [rwL_1] at ad
    exact ad
  refine step_nx lp ?_
  refine step_nx (en' := env ns w m (N + 1) (mnd A y N) (some (rwD (N + 1) y)) o5 o6 (some (rwD (N + 1) x)) none none none) (sAs_of (eCall1_of (eCall3_of (eCall2_of (fn := f__law_cell_at) rfl rfl ec9) rfl rfl (show f__law_numbers _ = _ from ex)) (patl_eq (by omega)))) ?_
  refine step_nx (en' := env ns w m (N + 1) (mnd A y N) (some (rwD (N + 1) y)) o5 o6 (some (rwD (N + 1) x)) (some (rwD m b)) none none) (sAs_of (eLc_ap (l := rwL m b) (iL_of (l := mtL m (N + 1) (mnd A y N)) rfl) ?_ (by rw [rwL_len]; omega))) ?_
  · exact evLc_map (q := fun i => rwD (N + 1) (mnd A y N i)) (r := fun i => rD (b i)) (List.range m) fun i hi => ⟨_, rfl, eCall2_of rfl rfl (pdotQ (rR1.rw (List.mem_range.mp hi)) rx (by omega) (by omega) (by omega))⟩
  refine step_nx (en' := env ns w m (N + 1) (mnd A y N) (some (rwD (N + 1) y)) o5 o6 (some (rwD (N + 1) x)) (some (rwD m b)) (some (rwD (N + 1) k)) none) (sAs_of (eCall3_of (eCall2_of (fn := f__law_cell_at) rfl rfl ec10) rfl rfl (show f__law_numbers _ = _ from ek))) ?_
  refine step_nx (en' := env ns w m (N + 1) (mnd A y N) (some (rwD (N + 1) y)) o5 (some (rD (S k y N))) (some (rwD (N + 1) x)) (some (rwD m b)) (some (rwD (N + 1) k)) none) (sAs_of (eCall2_of (eSl_m1 (n := N) (r := k) rfl) (eSl_m1 (n := N) (r := y) rfl) (show f__law_dot _ = _ from dt))) ?_
  refine step_nx (en' := env ns w m (N + 1) (mnd A y N) (some (rwD (N + 1) y)) o5 (some (rD (S k y N))) (some (rwD (N + 1) x)) (some (rwD m b)) (some (rwD (N + 1) k)) (some (.tup [.int (1 + (r1 : Nat)), .int (1 + (r2 : Nat))]))) (sAs_of (eTup_of (aC_of (eB2_of rfl (eB2_of (eCall2_of (fn := f__law_cell_at) rfl rfl ec11) rfl (by rw [oMod_int (by decide), e1])) (oAdd_int _ _)) (aC_of (eB2_of rfl (eB2_of (eB2_of (eCall2_of (fn := f__law_cell_at) rfl rfl ec11) rfl d7) rfl (by rw [oMod_int (by decide), e2])) (oAdd_int _ _)) rfl)))) ?_
  refine step_nx (en' := env ns w m (N + 1) (mnd A y N) (some (rwD (N + 1) y)) o5 (some (rD (S k y N))) (some (rwD (N + 1) x)) (some (rwD m b)) (some (rwD (N + 1) cs)) (some (.tup [.int (1 + (r1 : Nat)), .int (1 + (r2 : Nat))]))) ?_ ?_
  · rw [rD_neg] at els
    have st := sSub_nat (i := 9) (l := rwL (N + 1) k) (n := N) (j := -1) (en := env ns w m (N + 1) (mnd A y N) (some (rwD (N + 1) y)) o5 (some (rD (S k y N))) (some (rwD (N + 1) x)) (some (rwD m b)) (some (rwD (N + 1) k)) (some (.tup [.int (1 + (r1 : Nat)), .int (1 + (r2 : Nat))]))) (ek := eU1 oNeg (eC (.int 1))) (ev := eCall f__law_less (aCons (eTup (aCons (eB2 oSub (eC (.int 0)) (eB2 oIx (eVar 6) (eC (.int 0)))) (aCons (eB2 oIx (eVar 6) (eC (.int 1))) aNil))) (aCons (eCall f__law_low (aCons (eB2 oIx (eVar 10) (eC (.int 0))) (aCons (eB2 oIx (eVar 10) (eC (.int 1))) aNil))) aNil))) (d := rD z) rfl
      (eCall2_of (eTup_of (aC_of (eB2_of rfl (eB2_of (x := rD (S k y N)) rfl rfl (oIx_r0 _)) (oSub_int _ _)) (aC_of (eB2_of (x := rD (S k y N)) (z := .int ((S k y N).den : Int)) rfl rfl rfl) rfl))) (eCall2_of (eB2_of rfl rfl rfl) (eB2_of rfl rfl rfl) (show f__law_low _ = _ from el)) (show f__law_less _ = _ from els)) rfl (by rw [rwL_len]; exact ixN_last (by omega))
    rw [rwL_set] at st
    exact st
  rw [sRet_ap, eFl_of (d := .bl true) (eB2_of (x := .str "endless") (y := .str "endless") (eB2_of (eCall3_of rfl rfl rfl (show f__law_asked _ = _ from ed)) rfl rfl) rfl rfl) rfl]
  rfl
end Lk54
end
noncomputable section
namespace Lk54
open PySem PySem.Spec PyProof.Rows L2 Pi
section
variable {P : Program} {w : World} {K : PySem.W.Frag} {h : Heap} {mg : Str → Option Value} {base : Heap}
theorem fx (X : K.In h) (Gn : h.Ns mainGlobals mg) (c : He.SaysD faL fnL K) (cx : exL K = true) : Fx (gOf P w K mg base cn xs) where
  b_abs := He.free_ok X Gn (c.fact 43 (f := .free "abs") rfl)
  b_all := He.free_ok X Gn (c.fact 44 (f := .free "all") rfl)
  b_bool := He.free_ok X Gn (c.fact 45 (f := .free "bool") rfl)
  b_enumerate := He.free_ok X Gn (c.fact 46 (f := .free "enumerate") rfl)
  b_int := He.free_ok X Gn (c.fact 47 (f := .free "int") rfl)
  b_isinstance := He.free_ok X Gn (c.fact 48 (f := .free "isinstance") rfl)
  b_len := He.free_ok X Gn (c.fact 49 (f := .free "len") rfl)
  b_list := He.free_ok X Gn (c.fact 50 (f := .free "list") rfl)
  b_min := He.free_ok X Gn (c.fact 51 (f := .free "min") rfl)
  b_range := He.free_ok X Gn (c.fact 52 (f := .free "range") rfl)
  b_str := He.free_ok X Gn (c.fact 53 (f := .free "str") rfl)
  b_tuple := He.free_ok X Gn (c.fact 54 (f := .free "tuple") rfl)
  b_zip := He.free_ok X Gn (c.fact 55 (f := .free "zip") rfl)
  x_NoFraction := xcl_of X Gn 0 rfl (c.fact 56 (f := .glo "NoFraction") rfl) (c.fact 57 (f := .exc "NoFraction") rfl)
  g_NOUGHT := glo_tup2 X Gn (c.fact 64 (f := .glo "NOUGHT") rfl) ((Bool.and_eq_true _ _).mp cx).1
  g_ONE := glo_tup2 X Gn (c.fact 65 (f := .glo "ONE") rfl) ((Bool.and_eq_true _ _).mp cx).2
  k_Table := ⟨He.cls_ok (c.fact 58 (f := .cls "Table") rfl), rfl, by decide, fun f hf => by
    simp only [List.mem_cons, List.not_mem_nil, or_false] at hf
    rcases hf with rfl | rfl | rfl | rfl
    · exact He.noat_ok (c.fact 60 (f := .noat "Table" "wide") rfl)
    · exact He.noat_ok (c.fact 61 (f := .noat "Table" "signs") rfl)
    · exact He.noat_ok (c.fact 62 (f := .noat "Table" "lines") rfl)
    · exact He.noat_ok (c.fact 63 (f := .noat "Table" "heads") rfl)
    , He.glo_ok X Gn (c.fact 59 (f := .glo "Table") rfl)⟩
theorem facts {f : Addr} (X : K.In h) (Gn : h.Ns mainGlobals mg) (hfa : mg ("law" : Str) = some (.ref f)) (c : He.SaysD faL fnL K) (cx : exL K = true) :
    ∃ fd : FuncData, (∀ (s : Shared) (v : Value), BindsTo s fd ⟨[v], []⟩ [("_law_script", v)]) ∧ ∀ base : Heap, K.In base → base.Ns mainGlobals mg → FnOk P w K mg base (L2.CX P w) 11 f fd ["_law_script"] (spLawB K 63) := by
  obtain ⟨fd__law_drawn, F__law_drawn⟩ := c.def_ 0 (d := dd__law_drawn) rfl
  obtain ⟨fd__law_cell_at, F__law_cell_at⟩ := c.def_ 1 (d := dd__law_cell_at) rfl
  obtain ⟨fd__law_low, F__law_low⟩ := c.def_ 2 (d := dd__law_low) rfl
  obtain ⟨fd__law_numbers, F__law_numbers⟩ := c.def_ 3 (d := dd__law_numbers) rfl
  obtain ⟨fd__law_plus, F__law_plus⟩ := c.def_ 4 (d := dd__law_plus) rfl
  obtain ⟨fd__law_table, F__law_table⟩ := c.def_ 5 (d := dd__law_table) rfl
  obtain ⟨fd__law_at_least, F__law_at_least⟩ := c.def_ 6 (d := dd__law_at_least) rfl
  obtain ⟨fd__law_total, F__law_total⟩ := c.def_ 7 (d := dd__law_total) rfl
  obtain ⟨fd__law_times, F__law_times⟩ := c.def_ 8 (d := dd__law_times) rfl
  obtain ⟨fd__law_dot, F__law_dot⟩ := c.def_ 9 (d := dd__law_dot) rfl
  obtain ⟨fd__law_less, F__law_less⟩ := c.def_ 10 (d := dd__law_less) rfl
  obtain ⟨fd_is_less, F_is_less⟩ := c.def_ 11 (d := dd_is_less) rfl
  obtain ⟨fd_divisor, F_divisor⟩ := c.def_ 12 (d := dd_divisor) rfl
  obtain ⟨fd_ratio, F_ratio⟩ := c.def_ 13 (d := dd_ratio) rfl
  have F_ratio : FunD K "ratio" "ratio" (defArgs t_ratio) (defBody t_ratio) (defScope t_ratio) [V.int 1] [] _ fd_ratio := F_ratio
  obtain ⟨fd_product_of, F_product_of⟩ := c.def_ 14 (d := dd_product_of) rfl
  obtain ⟨fd_times_of, F_times_of⟩ := c.def_ 15 (d := dd_times_of) rfl
  obtain ⟨fd_times_row, F_times_row⟩ := c.def_ 16 (d := dd_times_row) rfl
  obtain ⟨fd_unit_row, F_unit_row⟩ := c.def_ 17 (d := dd_unit_row) rfl
  obtain ⟨fd_Table___init__, F_Table___init__⟩ := c.def_ 18 (d := dd_Table___init__) rfl
  obtain ⟨fd_rest_of, F_rest_of⟩ := c.def_ 19 (d := dd_rest_of) rfl
  obtain ⟨fd_less_of, F_less_of⟩ := c.def_ 20 (d := dd_less_of) rfl
  obtain ⟨fd_less_row, F_less_row⟩ := c.def_ 21 (d := dd_less_row) rfl
  obtain ⟨fd_Table_costs_row, F_Table_costs_row⟩ := c.def_ 22 (d := dd_Table_costs_row) rfl
  obtain ⟨fd_quotient_of, F_quotient_of⟩ := c.def_ 23 (d := dd_quotient_of) rfl
  obtain ⟨fd_Table_turned, F_Table_turned⟩ := c.def_ 24 (d := dd_Table_turned) rfl
  obtain ⟨fd_Table_cleared, F_Table_cleared⟩ := c.def_ 25 (d := dd_Table_cleared) rfl
  obtain ⟨fd_Table_place_for, F_Table_place_for⟩ := c.def_ 26 (d := dd_Table_place_for) rfl
  obtain ⟨fd_Table_brought_down, F_Table_brought_down⟩ := c.def_ 27 (d := dd_Table_brought_down) rfl
  obtain ⟨fd_Table_solution, F_Table_solution⟩ := c.def_ 28 (d := dd_Table_solution) rfl
  obtain ⟨fd_Table_prices, F_Table_prices⟩ := c.def_ 29 (d := dd_Table_prices) rfl
  obtain ⟨fd_Table_way, F_Table_way⟩ := c.def_ 30 (d := dd_Table_way) rfl
  obtain ⟨fd_least, F_least⟩ := c.def_ 31 (d := dd_least) rfl
  obtain ⟨fd__law_under, F__law_under⟩ := c.def_ 32 (d := dd__law_under) rfl
  obtain ⟨fd__law_ratio, F__law_ratio⟩ := c.def_ 33 (d := dd__law_ratio) rfl
  obtain ⟨fd__law_list, F__law_list⟩ := c.def_ 34 (d := dd__law_list) rfl
  obtain ⟨fd__law_solves, F__law_solves⟩ := c.def_ 35 (d := dd__law_solves) rfl
  obtain ⟨fd__law_column, F__law_column⟩ := c.def_ 36 (d := dd__law_column) rfl
  obtain ⟨fd__law_least, F__law_least⟩ := c.def_ 37 (d := dd__law_least) rfl
  obtain ⟨fd__law_none, F__law_none⟩ := c.def_ 38 (d := dd__law_none) rfl
  obtain ⟨fd__law_endless, F__law_endless⟩ := c.def_ 39 (d := dd__law_endless) rfl
  obtain ⟨fd__law_holds, F__law_holds⟩ := c.def_ 40 (d := dd__law_holds) rfl
  obtain ⟨fd__law_asked, F__law_asked⟩ := c.def_ 41 (d := dd__law_asked) rfl
  obtain ⟨fd_law, F_law⟩ := c.def_ 42 (d := dd_law) rfl
  have e := hfa.symm.trans (He.glo_ok X Gn (c.fact 42 (f := .glo "law") rfl))
  cases e
  have bl := FunD.bindsA (ps := ["_law_script"]) F_law fun _ _ _ _ _ _ us hl => match us, hl with | [_], _ => rfl
  refine ⟨fd_law, fun s v => bl s [v] rfl, fun base _ _ => ?_⟩
  have h := fx (P := P) (w := w) (base := base) X Gn c cx
  have c__law_drawn : Cal (gOf P w K mg base cn xs) 1 "_law_drawn" true 2 f__law_drawn := fn_cal F__law_drawn (He.glo_ok X Gn (c.fact 0 (f := .glo "_law_drawn") rfl)) (C8.fnScope_by (N := n__law_drawn) (P := ["_law_cell", "_law_bases"]) (sc := defScope t__law_drawn) (by decide +kernel)) rfl rfl (FunD.bindsN (ps := ["_law_cell", "_law_bases"]) F__law_drawn fun _ _ _ _ _ _ us hl => match us, hl with | [_, _], _ => rfl) (fun X W g => d__law_drawn h X W g)
  have c__law_cell_at : Cal (gOf P w K mg base cn xs) 1 "_law_cell_at" true 2 f__law_cell_at := fn_cal F__law_cell_at (He.glo_ok X Gn (c.fact 1 (f := .glo "_law_cell_at") rfl)) (C8.fnScope_by (N := n__law_cell_at) (P := ["_law_script", "_law_k"]) (sc := defScope t__law_cell_at) (by decide +kernel)) rfl rfl (FunD.bindsN (ps := ["_law_script", "_law_k"]) F__law_cell_at fun _ _ _ _ _ _ us hl => match us, hl with | [_, _], _ => rfl) (fun X W g => d__law_cell_at h X W g)
  have c__law_low : Cal (gOf P w K mg base cn xs) 1 "_law_low" true 2 f__law_low := fn_cal F__law_low (He.glo_ok X Gn (c.fact 2 (f := .glo "_law_low") rfl)) (C8.fnScope_by (N := n__law_low) (P := ["_law_top", "_law_bottom"]) (sc := defScope t__law_low) (by decide +kernel)) rfl rfl (FunD.bindsN (ps := ["_law_top", "_law_bottom"]) F__law_low fun _ _ _ _ _ _ us hl => match us, hl with | [_, _], _ => rfl) (fun X W g => d__law_low h X W g)
  have c__law_numbers : Cal (gOf P w K mg base cn xs) 2 "_law_numbers" true 3 f__law_numbers := fn_cal F__law_numbers (He.glo_ok X Gn (c.fact 3 (f := .glo "_law_numbers") rfl)) (C8.fnScope_by (N := n__law_numbers) (P := ["_law_cell", "_law_many", "_law_wide"]) (sc := defScope t__law_numbers) (by decide +kernel)) rfl rfl (FunD.bindsN (ps := ["_law_cell", "_law_many", "_law_wide"]) F__law_numbers fun _ _ _ _ _ _ us hl => match us, hl with | [_, _, _], _ => rfl) (fun X W g => d__law_numbers h c__law_drawn c__law_low X W g)
  have c__law_plus : Cal (gOf P w K mg base cn xs) 2 "_law_plus" true 2 f__law_plus := fn_cal F__law_plus (He.glo_ok X Gn (c.fact 4 (f := .glo "_law_plus") rfl)) (C8.fnScope_by (N := n__law_plus) (P := ["_law_one", "_law_other"]) (sc := defScope t__law_plus) (by decide +kernel)) rfl rfl (FunD.bindsN (ps := ["_law_one", "_law_other"]) F__law_plus fun _ _ _ _ _ _ us hl => match us, hl with | [_, _], _ => rfl) (fun X W g => d__law_plus h c__law_low X W g)
  have c__law_table : CalT (gOf P w K mg base cn xs) 3 "_law_table" (some (.o (.o .s))) 1 f__law_table := fn_calT F__law_table (He.glo_ok X Gn (c.fact 5 (f := .glo "_law_table") rfl)) (C8.fnScope_by (N := n__law_table) (P := ["_law_script"]) (sc := defScope t__law_table) (by decide +kernel)) rfl rfl (FunD.bindsN (ps := ["_law_script"]) F__law_table fun _ _ _ _ _ _ us hl => match us, hl with | [_], _ => rfl) (fun X W g => d__law_table h c__law_drawn c__law_cell_at c__law_numbers c__law_plus X W g)
  have c__law_at_least : Cal (gOf P w K mg base cn xs) 1 "_law_at_least" true 1 f__law_at_least := fn_cal F__law_at_least (He.glo_ok X Gn (c.fact 6 (f := .glo "_law_at_least") rfl)) (C8.fnScope_by (N := n__law_at_least) (P := ["_law_some"]) (sc := defScope t__law_at_least) (by decide +kernel)) rfl rfl (FunD.bindsN (ps := ["_law_some"]) F__law_at_least fun _ _ _ _ _ _ us hl => match us, hl with | [_], _ => rfl) (fun X W g => d__law_at_least h X W g)
  have c__law_total : Cal (gOf P w K mg base cn xs) 3 "_law_total" true 1 f__law_total := fn_cal F__law_total (He.glo_ok X Gn (c.fact 7 (f := .glo "_law_total") rfl)) (C8.fnScope_by (N := n__law_total) (P := ["_law_some"]) (sc := defScope t__law_total) (by decide +kernel)) rfl rfl (FunD.bindsN (ps := ["_law_some"]) F__law_total fun _ _ _ _ _ _ us hl => match us, hl with | [_], _ => rfl) (fun X W g => d__law_total h c__law_plus X W g)
  have c__law_times : Cal (gOf P w K mg base cn xs) 2 "_law_times" true 2 f__law_times := fn_cal F__law_times (He.glo_ok X Gn (c.fact 8 (f := .glo "_law_times") rfl)) (C8.fnScope_by (N := n__law_times) (P := ["_law_one", "_law_other"]) (sc := defScope t__law_times) (by decide +kernel)) rfl rfl (FunD.bindsN (ps := ["_law_one", "_law_other"]) F__law_times fun _ _ _ _ _ _ us hl => match us, hl with | [_, _], _ => rfl) (fun X W g => d__law_times h c__law_low X W g)
  have c__law_dot : Cal (gOf P w K mg base cn xs) 4 "_law_dot" true 2 f__law_dot := fn_cal F__law_dot (He.glo_ok X Gn (c.fact 9 (f := .glo "_law_dot") rfl)) (C8.fnScope_by (N := n__law_dot) (P := ["_law_one", "_law_other"]) (sc := defScope t__law_dot) (by decide +kernel)) rfl rfl (FunD.bindsN (ps := ["_law_one", "_law_other"]) F__law_dot fun _ _ _ _ _ _ us hl => match us, hl with | [_, _], _ => rfl) (fun X W g => d__law_dot h c__law_total c__law_times X W g)
  have c__law_less : Cal (gOf P w K mg base cn xs) 2 "_law_less" true 2 f__law_less := fn_cal F__law_less (He.glo_ok X Gn (c.fact 10 (f := .glo "_law_less") rfl)) (C8.fnScope_by (N := n__law_less) (P := ["_law_one", "_law_other"]) (sc := defScope t__law_less) (by decide +kernel)) rfl rfl (FunD.bindsN (ps := ["_law_one", "_law_other"]) F__law_less fun _ _ _ _ _ _ us hl => match us, hl with | [_, _], _ => rfl) (fun X W g => d__law_less h c__law_low X W g)
  have c_is_less : Cal (gOf P w K mg base cn xs) 1 "is_less" true 2 f_is_less := fn_cal F_is_less (He.glo_ok X Gn (c.fact 11 (f := .glo "is_less") rfl)) (C8.fnScope_by (N := n_is_less) (P := ["one", "other"]) (sc := defScope t_is_less) (by decide +kernel)) rfl rfl (FunD.bindsN (ps := ["one", "other"]) F_is_less fun _ _ _ _ _ _ us hl => match us, hl with | [_, _], _ => rfl) (fun X W g => d_is_less h X W g)
  have c_divisor : Cal (gOf P w K mg base cn xs) 1 "divisor" true 2 f_divisor := fn_cal F_divisor (He.glo_ok X Gn (c.fact 12 (f := .glo "divisor") rfl)) (C8.fnScope_by (N := n_divisor) (P := ["one", "other"]) (sc := defScope t_divisor) (by decide +kernel)) rfl rfl (FunD.bindsN (ps := ["one", "other"]) F_divisor fun _ _ _ _ _ _ us hl => match us, hl with | [_, _], _ => rfl) (fun X W g => d_divisor h X W g)
  obtain ⟨ds_ratio, v_ratio, b_ratio⟩ := FunD.binds1 (ps := ["top", "bottom"]) F_ratio 2 1 (by simp) rfl (fun T kV doc pm an cdv ct us its h1 h2 => match us, its, h1, h2 with | [_, _], [_], _, _ => ⟨_, rfl, rfl⟩)
  cases v_ratio
  have c_ratio : Cal (gOf P w K mg base cn xs) 2 "ratio" true 2 f_ratio := ⟨_, fd_ratio, _, fn_ok (G := gOf P w K mg base cn xs) F_ratio (C8.fnScope_by (N := n_ratio) (P := ["top", "bottom"]) (sc := defScope t_ratio) (by decide +kernel)) rfl rfl (fun X W g => d_ratio h c_divisor X W g), (He.glo_ok X Gn (c.fact 13 (f := .glo "ratio") rfl)), F_ratio.kp, b_ratio⟩
  obtain ⟨du_ratio, w_ratio, e_ratio⟩ := FunD.binds1 (ps := ["top", "bottom"]) F_ratio 1 0 (by simp) rfl (fun T kV doc pm an cdv ct us its h1 h2 => match us, its, h1, h2 with | [_], [_], _, _ => ⟨_, rfl, rfl⟩)
  cases w_ratio with | cons r_ratio z_ratio =>
  cases z_ratio
  have c_ratio_d : CalD (gOf P w K mg base cn xs) 2 "ratio" true 1 (.int 1) f_ratio := fn_calD F_ratio (He.glo_ok X Gn (c.fact 13 (f := .glo "ratio") rfl)) (C8.fnScope_by (N := n_ratio) (P := ["top", "bottom"]) (sc := defScope t_ratio) (by decide +kernel)) rfl rfl e_ratio r_ratio rfl (fun _ _ => rfl) (fun X W g => d_ratio h c_divisor X W g)
  have c_product_of : Cal (gOf P w K mg base cn xs) 3 "product_of" true 2 f_product_of := fn_cal F_product_of (He.glo_ok X Gn (c.fact 14 (f := .glo "product_of") rfl)) (C8.fnScope_by (N := n_product_of) (P := ["one", "other"]) (sc := defScope t_product_of) (by decide +kernel)) rfl rfl (FunD.bindsN (ps := ["one", "other"]) F_product_of fun _ _ _ _ _ _ us hl => match us, hl with | [_, _], _ => rfl) (fun X W g => d_product_of h c_ratio X W g)
  have c_times_of : Cal (gOf P w K mg base cn xs) 4 "times_of" true 2 f_times_of := fn_cal F_times_of (He.glo_ok X Gn (c.fact 15 (f := .glo "times_of") rfl)) (C8.fnScope_by (N := n_times_of) (P := ["one", "number"]) (sc := defScope t_times_of) (by decide +kernel)) rfl rfl (FunD.bindsN (ps := ["one", "number"]) F_times_of fun _ _ _ _ _ _ us hl => match us, hl with | [_, _], _ => rfl) (fun X W g => d_times_of h c_product_of X W g)
  have c_times_row : Cal (gOf P w K mg base cn xs) 5 "times_row" true 2 f_times_row := fn_cal F_times_row (He.glo_ok X Gn (c.fact 16 (f := .glo "times_row") rfl)) (C8.fnScope_by (N := n_times_row) (P := ["row", "number"]) (sc := defScope t_times_row) (by decide +kernel)) rfl rfl (FunD.bindsN (ps := ["row", "number"]) F_times_row fun _ _ _ _ _ _ us hl => match us, hl with | [_, _], _ => rfl) (fun X W g => d_times_row h c_times_of X W g)
  have c_unit_row : Cal (gOf P w K mg base cn xs) 1 "unit_row" true 2 f_unit_row := fn_cal F_unit_row (He.glo_ok X Gn (c.fact 17 (f := .glo "unit_row") rfl)) (C8.fnScope_by (N := n_unit_row) (P := ["many", "place"]) (sc := defScope t_unit_row) (by decide +kernel)) rfl rfl (FunD.bindsN (ps := ["many", "place"]) F_unit_row fun _ _ _ _ _ _ us hl => match us, hl with | [_, _], _ => rfl) (fun X W g => d_unit_row h X W g)
  have c_Table___init__ : MakX (gOf P w K mg base cn xs) 6 0 (.m (.cons .s (.cons (.o .s) (.cons (.o .s) (.cons (.o .s) .nil))))) 3 f_Table___init__ := ⟨_, fd_Table___init__, _, He.mkr_ok (c.fact 18 (f := .mkr "Table") rfl), fn_okX (G := gOf P w K mg base cn xs) (shs := [(.m (.cons .s (.cons (.o .s) (.cons (.o .s) (.cons (.o .s) .nil)))))]) F_Table___init__ (C8.fnScope_by (N := n_Table___init__) (P := ["self", "rows", "rights", "many"]) (sc := defScope t_Table___init__) (by decide +kernel)) rfl rfl (fun X W g => dB_Table___init__ h c_is_less c_times_row c_unit_row X W g) (fun X W g => dM_Table___init__ h c_is_less c_times_row c_unit_row X W g) (fun i sh hh => by cases i with | zero => cases hh; rfl | succ i => simp at hh), (FunD.bindsN (ps := ["self", "rows", "rights", "many"]) F_Table___init__ fun _ _ _ _ _ _ us hl => match us, hl with | [_, _, _, _], _ => rfl)⟩
  have c_rest_of : Cal (gOf P w K mg base cn xs) 3 "rest_of" true 2 f_rest_of := fn_cal F_rest_of (He.glo_ok X Gn (c.fact 19 (f := .glo "rest_of") rfl)) (C8.fnScope_by (N := n_rest_of) (P := ["one", "other"]) (sc := defScope t_rest_of) (by decide +kernel)) rfl rfl (FunD.bindsN (ps := ["one", "other"]) F_rest_of fun _ _ _ _ _ _ us hl => match us, hl with | [_, _], _ => rfl) (fun X W g => d_rest_of h c_ratio X W g)
  have c_less_of : Cal (gOf P w K mg base cn xs) 5 "less_of" true 3 f_less_of := fn_cal F_less_of (He.glo_ok X Gn (c.fact 20 (f := .glo "less_of") rfl)) (C8.fnScope_by (N := n_less_of) (P := ["one", "two", "number"]) (sc := defScope t_less_of) (by decide +kernel)) rfl rfl (FunD.bindsN (ps := ["one", "two", "number"]) F_less_of fun _ _ _ _ _ _ us hl => match us, hl with | [_, _, _], _ => rfl) (fun X W g => d_less_of h c_rest_of c_times_of X W g)
  have c_less_row : Cal (gOf P w K mg base cn xs) 6 "less_row" false 3 f_less_row := fn_cal F_less_row (He.glo_ok X Gn (c.fact 21 (f := .glo "less_row") rfl)) (C8.fnScope_by (N := n_less_row) (P := ["row", "other", "number"]) (sc := defScope t_less_row) (by decide +kernel)) rfl rfl (FunD.bindsN (ps := ["row", "other", "number"]) F_less_row fun _ _ _ _ _ _ us hl => match us, hl with | [_, _, _], _ => rfl) (fun X W g => d_less_row h c_less_of X W g)
  have cB_Table_costs_row : MetC (gOf P w K mg base cn xs) 7 0 "costs_row" false 1 fB_Table_costs_row := ⟨_, fd_Table_costs_row, _, He.meth_ok (c.fact 22 (f := .meth "Table" "costs_row") rfl), fn_ok (G := gOf P w K mg base cn xs) F_Table_costs_row (C8.fnScope_by (N := n_Table_costs_row) (P := ["self", "costs"]) (sc := defScope t_Table_costs_row) (by decide +kernel)) rfl rfl (fun X W g => dB_Table_costs_row h c_less_row X W g), (FunD.bindsN (ps := ["self", "costs"]) F_Table_costs_row fun _ _ _ _ _ _ us hl => match us, hl with | [_, _], _ => rfl)⟩
  have c_Table_costs_row : MetX (gOf P w K mg base cn xs) 7 0 "costs_row" [(.m (.cons .s (.cons (.o .s) (.cons (.o .s) (.cons (.o .s) .nil)))))] 2 f_Table_costs_row := ⟨_, fd_Table_costs_row, _, He.meth_ok (c.fact 22 (f := .meth "Table" "costs_row") rfl), fn_okX (G := gOf P w K mg base cn xs) (shs := [(.m (.cons .s (.cons (.o .s) (.cons (.o .s) (.cons (.o .s) .nil)))))]) F_Table_costs_row (C8.fnScope_by (N := n_Table_costs_row) (P := ["self", "costs"]) (sc := defScope t_Table_costs_row) (by decide +kernel)) rfl rfl (fun X W g => dB_Table_costs_row h c_less_row X W g) (fun X W g => dM_Table_costs_row h c_less_row X W g) (fun i sh hh => by cases i with | zero => cases hh; rfl | succ i => simp at hh), (FunD.bindsN (ps := ["self", "costs"]) F_Table_costs_row fun _ _ _ _ _ _ us hl => match us, hl with | [_, _], _ => rfl)⟩
  have c_quotient_of : Cal (gOf P w K mg base cn xs) 3 "quotient_of" true 2 f_quotient_of := fn_cal F_quotient_of (He.glo_ok X Gn (c.fact 23 (f := .glo "quotient_of") rfl)) (C8.fnScope_by (N := n_quotient_of) (P := ["one", "other"]) (sc := defScope t_quotient_of) (by decide +kernel)) rfl rfl (FunD.bindsN (ps := ["one", "other"]) F_quotient_of fun _ _ _ _ _ _ us hl => match us, hl with | [_, _], _ => rfl) (fun X W g => d_quotient_of h c_ratio X W g)
  have c_Table_turned : MetX (gOf P w K mg base cn xs) 7 0 "turned" [(.m (.cons .s (.cons (.o .s) (.cons (.o .s) (.cons (.o .s) .nil)))))] 4 f_Table_turned := ⟨_, fd_Table_turned, _, He.meth_ok (c.fact 24 (f := .meth "Table" "turned") rfl), fn_okX (G := gOf P w K mg base cn xs) (shs := [(.m (.cons .s (.cons (.o .s) (.cons (.o .s) (.cons (.o .s) .nil)))))]) F_Table_turned (C8.fnScope_by (N := n_Table_turned) (P := ["self", "place", "column", "row"]) (sc := defScope t_Table_turned) (by decide +kernel)) rfl rfl (fun X W g => dB_Table_turned h c_times_row c_less_row c_quotient_of X W g) (fun X W g => dM_Table_turned h c_times_row c_less_row c_quotient_of X W g) (fun i sh hh => by cases i with | zero => cases hh; rfl | succ i => simp at hh), (FunD.bindsN (ps := ["self", "place", "column", "row"]) F_Table_turned fun _ _ _ _ _ _ us hl => match us, hl with | [_, _, _, _], _ => rfl)⟩
  have cB_Table_cleared : MetC (gOf P w K mg base cn xs) 8 0 "cleared" false 1 fB_Table_cleared := ⟨_, fd_Table_cleared, _, He.meth_ok (c.fact 25 (f := .meth "Table" "cleared") rfl), fn_ok (G := gOf P w K mg base cn xs) F_Table_cleared (C8.fnScope_by (N := n_Table_cleared) (P := ["self", "row"]) (sc := defScope t_Table_cleared) (by decide +kernel)) rfl rfl (fun X W g => dB_Table_cleared h c_Table_turned X W g), (FunD.bindsN (ps := ["self", "row"]) F_Table_cleared fun _ _ _ _ _ _ us hl => match us, hl with | [_, _], _ => rfl)⟩
  have c_Table_cleared : MetX (gOf P w K mg base cn xs) 8 0 "cleared" [(.m (.cons .s (.cons (.o .s) (.cons (.o .s) (.cons (.o .s) .nil)))))] 2 f_Table_cleared := ⟨_, fd_Table_cleared, _, He.meth_ok (c.fact 25 (f := .meth "Table" "cleared") rfl), fn_okX (G := gOf P w K mg base cn xs) (shs := [(.m (.cons .s (.cons (.o .s) (.cons (.o .s) (.cons (.o .s) .nil)))))]) F_Table_cleared (C8.fnScope_by (N := n_Table_cleared) (P := ["self", "row"]) (sc := defScope t_Table_cleared) (by decide +kernel)) rfl rfl (fun X W g => dB_Table_cleared h c_Table_turned X W g) (fun X W g => dM_Table_cleared h c_Table_turned X W g) (fun i sh hh => by cases i with | zero => cases hh; rfl | succ i => simp at hh), (FunD.bindsN (ps := ["self", "row"]) F_Table_cleared fun _ _ _ _ _ _ us hl => match us, hl with | [_, _], _ => rfl)⟩
  have c_Table_place_for : MetC (gOf P w K mg base cn xs) 4 0 "place_for" true 1 f_Table_place_for := ⟨_, fd_Table_place_for, _, He.meth_ok (c.fact 26 (f := .meth "Table" "place_for") rfl), fn_ok (G := gOf P w K mg base cn xs) F_Table_place_for (C8.fnScope_by (N := n_Table_place_for) (P := ["self", "column"]) (sc := defScope t_Table_place_for) (by decide +kernel)) rfl rfl (fun X W g => d_Table_place_for h c_is_less c_quotient_of X W g), (FunD.bindsN (ps := ["self", "column"]) F_Table_place_for fun _ _ _ _ _ _ us hl => match us, hl with | [_, _], _ => rfl)⟩
  have cB_Table_brought_down : MetC (gOf P w K mg base cn xs) 8 0 "brought_down" false 1 fB_Table_brought_down := ⟨_, fd_Table_brought_down, _, He.meth_ok (c.fact 27 (f := .meth "Table" "brought_down") rfl), fn_ok (G := gOf P w K mg base cn xs) F_Table_brought_down (C8.fnScope_by (N := n_Table_brought_down) (P := ["self", "row"]) (sc := defScope t_Table_brought_down) (by decide +kernel)) rfl rfl (fun X W g => dB_Table_brought_down h c_Table_place_for c_Table_turned c_is_less X W g), (FunD.bindsN (ps := ["self", "row"]) F_Table_brought_down fun _ _ _ _ _ _ us hl => match us, hl with | [_, _], _ => rfl)⟩
  have c_Table_brought_down : MetX (gOf P w K mg base cn xs) 8 0 "brought_down" [(.m (.cons .s (.cons (.o .s) (.cons (.o .s) (.cons (.o .s) .nil)))))] 2 f_Table_brought_down := ⟨_, fd_Table_brought_down, _, He.meth_ok (c.fact 27 (f := .meth "Table" "brought_down") rfl), fn_okX (G := gOf P w K mg base cn xs) (shs := [(.m (.cons .s (.cons (.o .s) (.cons (.o .s) (.cons (.o .s) .nil)))))]) F_Table_brought_down (C8.fnScope_by (N := n_Table_brought_down) (P := ["self", "row"]) (sc := defScope t_Table_brought_down) (by decide +kernel)) rfl rfl (fun X W g => dB_Table_brought_down h c_Table_place_for c_Table_turned c_is_less X W g) (fun X W g => dM_Table_brought_down h c_Table_place_for c_Table_turned c_is_less X W g) (fun i sh hh => by cases i with | zero => cases hh; rfl | succ i => simp at hh), (FunD.bindsN (ps := ["self", "row"]) F_Table_brought_down fun _ _ _ _ _ _ us hl => match us, hl with | [_, _], _ => rfl)⟩
  have c_Table_solution : MetC (gOf P w K mg base cn xs) 1 0 "solution" true 0 f_Table_solution := ⟨_, fd_Table_solution, _, He.meth_ok (c.fact 28 (f := .meth "Table" "solution") rfl), fn_ok (G := gOf P w K mg base cn xs) F_Table_solution (C8.fnScope_by (N := n_Table_solution) (P := ["self"]) (sc := defScope t_Table_solution) (by decide +kernel)) rfl rfl (fun X W g => d_Table_solution h X W g), (FunD.bindsN (ps := ["self"]) F_Table_solution fun _ _ _ _ _ _ us hl => match us, hl with | [_], _ => rfl)⟩
  have c_Table_prices : MetC (gOf P w K mg base cn xs) 4 0 "prices" true 2 f_Table_prices := ⟨_, fd_Table_prices, _, He.meth_ok (c.fact 29 (f := .meth "Table" "prices") rfl), fn_ok (G := gOf P w K mg base cn xs) F_Table_prices (C8.fnScope_by (N := n_Table_prices) (P := ["self", "row", "cost"]) (sc := defScope t_Table_prices) (by decide +kernel)) rfl rfl (fun X W g => d_Table_prices h c_product_of c_rest_of X W g), (FunD.bindsN (ps := ["self", "row", "cost"]) F_Table_prices fun _ _ _ _ _ _ us hl => match us, hl with | [_, _, _], _ => rfl)⟩
  have c_Table_way : MetC (gOf P w K mg base cn xs) 4 0 "way" true 1 f_Table_way := ⟨_, fd_Table_way, _, He.meth_ok (c.fact 30 (f := .meth "Table" "way") rfl), fn_ok (G := gOf P w K mg base cn xs) F_Table_way (C8.fnScope_by (N := n_Table_way) (P := ["self", "column"]) (sc := defScope t_Table_way) (by decide +kernel)) rfl rfl (fun X W g => d_Table_way h c_unit_row c_rest_of X W g), (FunD.bindsN (ps := ["self", "column"]) F_Table_way fun _ _ _ _ _ _ us hl => match us, hl with | [_, _], _ => rfl)⟩
  have c_least : Cal (gOf P w K mg base cn xs) 9 "least" true 3 f_least := fn_cal F_least (He.glo_ok X Gn (c.fact 31 (f := .glo "least") rfl)) (C8.fnScope_by (N := n_least) (P := ["rows", "rights", "costs"]) (sc := defScope t_least) (by decide +kernel)) rfl rfl (FunD.bindsN (ps := ["rows", "rights", "costs"]) F_least fun _ _ _ _ _ _ us hl => match us, hl with | [_, _, _], _ => rfl) (fun X W g => d_least h c_Table___init__ cB_Table_costs_row c_Table_costs_row cB_Table_cleared c_Table_cleared cB_Table_brought_down c_Table_brought_down c_rest_of c_Table_solution c_Table_prices c_Table_way X W g)
  have c__law_under : Cal (gOf P w K mg base cn xs) 1 "_law_under" true 2 f__law_under := fn_cal F__law_under (He.glo_ok X Gn (c.fact 32 (f := .glo "_law_under") rfl)) (C8.fnScope_by (N := n__law_under) (P := ["_law_one", "_law_other"]) (sc := defScope t__law_under) (by decide +kernel)) rfl rfl (FunD.bindsN (ps := ["_law_one", "_law_other"]) F__law_under fun _ _ _ _ _ _ us hl => match us, hl with | [_, _], _ => rfl) (fun X W g => d__law_under h X W g)
  have c__law_ratio : Cal (gOf P w K mg base cn xs) 2 "_law_ratio" true 1 f__law_ratio := fn_cal F__law_ratio (He.glo_ok X Gn (c.fact 33 (f := .glo "_law_ratio") rfl)) (C8.fnScope_by (N := n__law_ratio) (P := ["_law_found"]) (sc := defScope t__law_ratio) (by decide +kernel)) rfl rfl (FunD.bindsN (ps := ["_law_found"]) F__law_ratio fun _ _ _ _ _ _ us hl => match us, hl with | [_], _ => rfl) (fun X W g => d__law_ratio h c__law_low X W g)
  have c__law_list : Cal (gOf P w K mg base cn xs) 3 "_law_list" true 2 f__law_list := fn_cal F__law_list (He.glo_ok X Gn (c.fact 34 (f := .glo "_law_list") rfl)) (C8.fnScope_by (N := n__law_list) (P := ["_law_found", "_law_many"]) (sc := defScope t__law_list) (by decide +kernel)) rfl rfl (FunD.bindsN (ps := ["_law_found", "_law_many"]) F__law_list fun _ _ _ _ _ _ us hl => match us, hl with | [_, _], _ => rfl) (fun X W g => d__law_list h c__law_ratio X W g)
  have c__law_solves : Cal (gOf P w K mg base cn xs) 5 "_law_solves" true 4 f__law_solves := fn_cal F__law_solves (He.glo_ok X Gn (c.fact 35 (f := .glo "_law_solves") rfl)) (C8.fnScope_by (N := n__law_solves) (P := ["_law_rows", "_law_rights", "_law_found", "_law_many"]) (sc := defScope t__law_solves) (by decide +kernel)) rfl rfl (FunD.bindsN (ps := ["_law_rows", "_law_rights", "_law_found", "_law_many"]) F__law_solves fun _ _ _ _ _ _ us hl => match us, hl with | [_, _, _, _], _ => rfl) (fun X W g => d__law_solves h c__law_list c__law_dot X W g)
  have c__law_column : Cal (gOf P w K mg base cn xs) 1 "_law_column" true 2 f__law_column := fn_cal F__law_column (He.glo_ok X Gn (c.fact 36 (f := .glo "_law_column") rfl)) (C8.fnScope_by (N := n__law_column) (P := ["_law_rows", "_law_k"]) (sc := defScope t__law_column) (by decide +kernel)) rfl rfl (FunD.bindsN (ps := ["_law_rows", "_law_k"]) F__law_column fun _ _ _ _ _ _ us hl => match us, hl with | [_, _], _ => rfl) (fun X W g => d__law_column h X W g)
  have c__law_least : Cal (gOf P w K mg base cn xs) 6 "_law_least" true 4 f__law_least := fn_cal F__law_least (He.glo_ok X Gn (c.fact 37 (f := .glo "_law_least") rfl)) (C8.fnScope_by (N := n__law_least) (P := ["_law_rows", "_law_rights", "_law_costs", "_law_told"]) (sc := defScope t__law_least) (by decide +kernel)) rfl rfl (FunD.bindsN (ps := ["_law_rows", "_law_rights", "_law_costs", "_law_told"]) F__law_least fun _ _ _ _ _ _ us hl => match us, hl with | [_, _, _, _], _ => rfl) (fun X W g => d__law_least h c__law_under c__law_dot c__law_ratio c__law_solves c__law_list c__law_column X W g)
  have c__law_none : Cal (gOf P w K mg base cn xs) 5 "_law_none" true 4 f__law_none := fn_cal F__law_none (He.glo_ok X Gn (c.fact 38 (f := .glo "_law_none") rfl)) (C8.fnScope_by (N := n__law_none) (P := ["_law_rows", "_law_rights", "_law_costs", "_law_told"]) (sc := defScope t__law_none) (by decide +kernel)) rfl rfl (FunD.bindsN (ps := ["_law_rows", "_law_rights", "_law_costs", "_law_told"]) F__law_none fun _ _ _ _ _ _ us hl => match us, hl with | [_, _, _, _], _ => rfl) (fun X W g => d__law_none h c__law_list c__law_dot c__law_column X W g)
  have c__law_endless : Cal (gOf P w K mg base cn xs) 6 "_law_endless" true 4 f__law_endless := fn_cal F__law_endless (He.glo_ok X Gn (c.fact 39 (f := .glo "_law_endless") rfl)) (C8.fnScope_by (N := n__law_endless) (P := ["_law_rows", "_law_rights", "_law_costs", "_law_told"]) (sc := defScope t__law_endless) (by decide +kernel)) rfl rfl (FunD.bindsN (ps := ["_law_rows", "_law_rights", "_law_costs", "_law_told"]) F__law_endless fun _ _ _ _ _ _ us hl => match us, hl with | [_, _, _, _], _ => rfl) (fun X W g => d__law_endless h c__law_solves c__law_dot X W g)
  have c__law_holds : Cal (gOf P w K mg base cn xs) 7 "_law_holds" true 4 f__law_holds := fn_cal F__law_holds (He.glo_ok X Gn (c.fact 40 (f := .glo "_law_holds") rfl)) (C8.fnScope_by (N := n__law_holds) (P := ["_law_rows", "_law_rights", "_law_costs", "_law_told"]) (sc := defScope t__law_holds) (by decide +kernel)) rfl rfl (FunD.bindsN (ps := ["_law_rows", "_law_rights", "_law_costs", "_law_told"]) F__law_holds fun _ _ _ _ _ _ us hl => match us, hl with | [_, _, _, _], _ => rfl) (fun X W g => d__law_holds h c__law_least c__law_none c__law_endless X W g)
  have c__law_asked : Cal (gOf P w K mg base cn xs) 10 "_law_asked" true 3 f__law_asked := fn_cal F__law_asked (He.glo_ok X Gn (c.fact 41 (f := .glo "_law_asked") rfl)) (C8.fnScope_by (N := n__law_asked) (P := ["_law_rows", "_law_rights", "_law_costs"]) (sc := defScope t__law_asked) (by decide +kernel)) rfl rfl (FunD.bindsN (ps := ["_law_rows", "_law_rights", "_law_costs"]) F__law_asked fun _ _ _ _ _ _ us hl => match us, hl with | [_, _, _], _ => rfl) (fun X W g => d__law_asked h c_least c__law_holds X W g)
  exact law_okB (fn_ok (G := gOf P w K mg base cn xs) F_law (C8.fnScope_by (N := n_law) (P := ["_law_script"]) (sc := defScope t_law) (by decide +kernel)) rfl rfl (fun X W g => d_law h c__law_table c__law_at_least c__law_numbers c__law_dot c__law_less c__law_cell_at c__law_low c__law_asked X W g)) rfl rfl law_plain
end
end Lk54
end
open PySem PySem.W PySem.Calls PyProof.Rows
theorem PySem.Challenge.cw_roadshare_k54_endless_ways_holds : PySem.Challenge.rw_roadshare_k54_endless_ways.Holds := by
  w_on; o_law
  refine HandSHeadRun.head_any (r := OpenLaw.row PySem.Challenge.rw_roadshare_k54_endless_ways) (q := view (OpenLaw.row PySem.Challenge.rw_roadshare_k54_endless_ways).prog [43]) (H := Lk54.hk) (ob := Lk54.ob) (M := 20000) (loose := Lk54.loose) (d := HandSHeadRun.topDef (OpenLaw.row PySem.Challenge.rw_roadshare_k54_endless_ways).prog 43) (kwd := []) Lk54.ob_eq
    (by kernel_rfl) (fun s => by kernel_rfl) Lk54.run (by kernel_rfl) (by kernel_rfl) (by kernel_rfl) (by rfl) (by first | assumption | decide +kernel) (by decide +kernel) ⟨rfl, rfl, rfl, rfl, rfl, by decide +kernel⟩ ?hw ?hc
  case hw => w_witness2
  case hc =>
    refine Pi.walk_ofWB (l := PySem.Challenge.rw_roadshare_k54_endless_ways) (n := 63) (k := 11) (x := "_law_script") (CX := fun w => L2.CX (PySem.Challenge.rw_roadshare_k54_endless_ways).prog w) rfl (by decide) (by kernel_rfl) ⟨rfl, by decide, by decide⟩ ?F (fun _ _ _ _ _ z => Pi.noCX z)
    intro w mg fa h Y G hmg0
    obtain ⟨K, KX, c, cx⟩ := Y
    have hmg : mg ("law" : PySem.Str) = some (.ref fa) := by
      have e : (HandSHeadRun.topDef (OpenLaw.row PySem.Challenge.rw_roadshare_k54_endless_ways).prog 43).name = ("law" : PySem.Str) := by kernel_rfl
      rw [← e]
      exact hmg0
    obtain ⟨fd, hb, hF⟩ := Lk54.facts (P := (PySem.Challenge.rw_roadshare_k54_endless_ways).prog) (w := w) KX G hmg c cx
    exact ⟨K, fd, Pi.spLawB K 63, KX, hb, Pi.law_endB, hF⟩
