/-
  How the data lie in memory.
  Conditions: none.
-/
import Derived.Test.YtmjmglkogcomaaaGreatDoorCur
namespace Go.Sy
open Go Go.RowKit
instance:Tid Int:=⟨3⟩
instance:Tid Bool:=⟨4⟩
instance:Tid (List Int):=⟨47⟩
instance:Tid (List Bool):=⟨0⟩
instance:Tid ByteArray:=⟨9⟩
instance:Tid (List ByteArray):=⟨30⟩
instance:Tid UInt8:=⟨5⟩
instance:Tid C1G:=⟨32⟩
abbrev C1G.tup(r:C1G):ByteArray ×(List ByteArray):=(r.p5,r.a)
instance:Gd C1G:=Gd.via C1G.tup
instance:Tid C1H:=⟨92⟩
abbrev C1H.tup(r:C1H):ByteArray ×(List ByteArray):=(r.p5,r.a)
instance:Gd C1H:=Gd.via C1H.tup
instance:Tid C1J:=⟨159⟩
abbrev C1J.tup(r:C1J):ByteArray × ByteArray:=(r.q4,r.q3)
instance:Gd C1J:=Gd.via C1J.tup
instance:Tid C1K:=⟨58⟩
abbrev C1K.tup(r:C1K):Int × ByteArray × C1G:=(r.s,r.p7,r.j)
instance:Gd C1K:=Gd.via C1K.tup
instance:Tid C1L:=⟨115⟩
abbrev C1L.tup(r:C1L):Int × C1H × ByteArray × ByteArray:=(r.s,r.p2,r.t,r.p6)
instance:Gd C1L:=Gd.via C1L.tup
instance:Tid Action:=⟨94⟩
abbrev Action.tup(r:Go.Sy.Action):Int × C1H:=(r.s,r.p2)
instance:Gd Go.Sy.Action:=Gd.via Action.tup
instance:Tid C1M:=⟨78⟩
abbrev C1M.tup(r:C1M):ByteArray × Int ×(List C1L)×(List Action):=(r.y,r.p3,r.q,r.q0)
instance:Gd C1M:=Gd.via C1M.tup
instance:Tid C1N:=⟨80⟩
abbrev C1N.tup(r:C1N):C1G × Int:=(r.j,r.q1)
instance:Gd C1N:=Gd.via C1N.tup
instance:Tid C1O:=⟨49⟩
abbrev C1O.tup(r:C1O):ByteArray ×(List Int):=(r.p7,r.q2)
instance:Gd C1O:=Gd.via C1O.tup
instance:Tid C1P:=⟨29⟩
abbrev C1P.tup(r:C1P):(List C1M)×(List C1N)× Int ×(List C1O)× Bool ×(List C1K):=(r.p8,r.w,r.g,r.m,r.p,r.u)
instance:Gd C1P:=Gd.via C1P.tup
instance:Tid Match:=⟨52⟩
abbrev Match.tup(r:Go.Sy.Match):ByteArray ×(List C1G)×(List C1J):=(r.p7,r.k,r.f)
instance:Gd Go.Sy.Match:=Gd.via Match.tup
instance:Tid C3t:=⟨175⟩
abbrev C3t.tup(r:C3t):(List C1G)×(List C1J):=(r.k,r.f)
instance:Gd C3t:=Gd.via C3t.tup
instance:Tid C3z:=⟨54⟩
abbrev C3z.tup(r:C3z):Go.Sy.Match × Int ×(List Int)× Int × Int:=(r.v,r.p3,r.q2,r.p9,r.p0)
instance:Gd C3z:=Gd.via C3z.tup
theorem AS{w:World}{cs:List Value}{r:C1G}(h:Gd.rd w cs r):∃b,cs=[.string r.p5,b]/\Gd.rd w [b] r.a:=by
 obtain⟨c0,e,d,h0,c⟩:=h;obtain rfl:c0=[.string r.p5]:=h0;obtain⟨b,rfl⟩:=CL c;exact⟨b,by rw[d];rfl,c⟩
theorem EZ{w:World}{cs:List Value}{r:C1G}(h:Gd.rd w cs r):∃a,cs=[.string r.p5,a]/\a.oneCell'=true:=by
 obtain⟨a,e,b⟩:=AS h;exact⟨a,e,A2 b⟩
theorem S4{N:Nat}{w0:World}{H:List Chunk}{L:Fm}{K:Act->World->Prop}{c:Value}{r:C1G}(k:D N w0 (ov [.string r.p5,c] r::H) L K):D N w0 (ov [c] r.a::H) L K:=by
 intro a w hf h;refine k a w hf (St.conv (h) ?_);intro b d;exact⟨([]++b),⟨[.string r.p5],[c],[],b,rfl,rfl,⟨rfl,rfl⟩,d⟩,by simp⟩
theorem B8{w:World}{cs:List Value}{r:C1H}(h:Gd.rd w cs r):∃b,cs=[.string r.p5,b]/\Gd.rd w [b] r.a:=by
 obtain⟨c0,e,d,h0,c⟩:=h;obtain rfl:c0=[.string r.p5]:=h0;obtain⟨b,rfl⟩:=CL c;exact⟨b,by rw[d];rfl,c⟩
theorem OO{w:World}{cs:List Value}{r:C1H}(h:Gd.rd w cs r):∃a,cs=[.string r.p5,a]/\a.oneCell'=true:=by
 obtain⟨a,e,b⟩:=B8 h;exact⟨a,e,A2 b⟩
theorem fK{N:Nat}{w0:World}{H:List Chunk}{L:Fm}{K:Act->World->Prop}{c:Value}{r:C1H}(k:D N w0 (ov [.string r.p5,c] r::H) L K):D N w0 (ov [c] r.a::H) L K:=by
 intro a w hf h;refine k a w hf (St.conv (h) ?_);intro b d;exact⟨([]++b),⟨[.string r.p5],[c],[],b,rfl,rfl,⟨rfl,rfl⟩,d⟩,by simp⟩
theorem D1{w:World}{cs:List Value}{r:C1J}(h:Gd.rd w cs r):cs=[.string r.q4, .string r.q3]:=by
 obtain⟨c0,a,b,h0,c⟩:=h;obtain rfl:c0=[.string r.q4]:=h0;obtain rfl:a=[.string r.q3]:=c;exact(by rw[b];rfl)
theorem H4{N:Nat}{w0:World}{H:List Chunk}{L:Fm}{K:Act->World->Prop}{r:C1J}(k:D N w0 (ov [.string r.q4, .string r.q3] r::H) L K):D N w0 H L K:=λa w b h=>k a w b (h.nul (c:=ov [.string r.q4, .string r.q3] r) ⟨[.string r.q4],[.string r.q3],[],[],rfl,rfl,⟨rfl,rfl⟩,⟨rfl,rfl⟩⟩)
theorem D2{w:World}{cs:List Value}{r:C1K}(h:Gd.rd w cs r):∃b,cs=[.int .i64 r.s, .string r.p7, .string r.j.p5,b]/\Gd.rd w [b] r.j.a:=by
 obtain⟨c0,i,d,h0,e⟩:=h;obtain⟨c1,k,f,h1,g⟩:=e;obtain rfl:c0=[.int .i64 r.s]:=h0;obtain rfl:c1=[.string r.p7]:=h1;obtain⟨b,rfl,c⟩:=AS g;exact⟨b,by rw[d,f];rfl,c⟩
theorem SA{w:World}{cs:List Value}{r:C1K}(h:Gd.rd w cs r):∃a,cs=[.int .i64 r.s, .string r.p7, .string r.j.p5,a]/\a.oneCell'=true:=by
 obtain⟨a,e,b⟩:=D2 h;exact⟨a,e,A2 b⟩
theorem CC{w:World}{a:Value}{r:C1K}(h:Gd.rd w [.int .i64 r.s, .string r.p7, .string r.j.p5,a] r):Gd.rd w [.string r.j.p5,a] r.j:=by
 obtain⟨c0,f,b,h0,d⟩:=h;obtain rfl:c0=[.int .i64 r.s]:=h0;simp only[List.cons_append,List.nil_append,List.cons.injEq,true_and] at b;subst b;obtain⟨c1,g,c,h1,e⟩:=d;obtain rfl:c1=[.string r.p7]:=h1;simp only[List.cons_append,List.nil_append,List.cons.injEq,true_and] at c;subst c;exact e
theorem aS{N:Nat}{w0:World}{H:List Chunk}{L:Fm}{K:Act->World->Prop}{c:Value}{r:C1K}(k:D N w0 (ov [.int .i64 r.s, .string r.p7, .string r.j.p5,c] r::H) L K):D N w0 (ov [c] r.j.a::H) L K:=by
 intro a w hf h;refine k a w hf (St.conv (h) ?_);intro b d;exact⟨([]++([]++([]++b))),⟨[.int .i64 r.s],([.string r.p7]++([.string r.j.p5]++ [c])),[],([]++([]++b)),rfl,rfl,⟨rfl,rfl⟩,⟨[.string r.p7],([.string r.j.p5]++ [c]),[],([]++b),rfl,rfl,⟨rfl,rfl⟩,⟨[.string r.j.p5],[c],[],b,rfl,rfl,⟨rfl,rfl⟩,d⟩⟩⟩,by simp⟩
theorem A8{w:World}{cs:List Value}{r:C1L}(h:Gd.rd w cs r):∃b,cs=[.int .i64 r.s, .string r.p2.p5,b, .string r.t, .string r.p6]/\Gd.rd w [b] r.p2.a:=by
 obtain⟨c0,m,d,h0,e⟩:=h;obtain⟨c1,n,f,h1,l⟩:=e;obtain⟨c2,k,g,i,j⟩:=l;obtain rfl:c0=[.int .i64 r.s]:=h0;obtain⟨b,rfl,c⟩:=B8 h1;obtain rfl:c2=[.string r.t]:=i;obtain rfl:k=[.string r.p6]:=j;exact⟨b,by rw[d,f,g];rfl,c⟩
theorem TM{w:World}{cs:List Value}{r:C1L}(h:Gd.rd w cs r):∃a,cs=[.int .i64 r.s, .string r.p2.p5,a, .string r.t, .string r.p6]/\a.oneCell'=true:=by
 obtain⟨a,e,b⟩:=A8 h;exact⟨a,e,A2 b⟩
theorem AK{w:World}{a:Value}{r:C1L}(h:Gd.rd w [.int .i64 r.s, .string r.p2.p5,a, .string r.t, .string r.p6] r):Gd.rd w [.string r.p2.p5,a] r.p2:=by
 obtain⟨c0,i,b,h0,d⟩:=h;obtain rfl:c0=[.int .i64 r.s]:=h0;simp only[List.cons_append,List.nil_append,List.cons.injEq,true_and] at b;subst b;obtain⟨c1,g,e,h1,j⟩:=d;have hl:c1.length=2:=Gd.rd_len h1;have key:c1=[.string r.p2.p5,a]:=by
  have c:=congrArg (List.take 2) e;have f:(c1++g).take 2=c1:=by rw[<-hl];exact List.take_left
  rw[f] at c;exact c.symm
 rw[<-key];exact h1
theorem iA{N:Nat}{w0:World}{H:List Chunk}{L:Fm}{K:Act->World->Prop}{c:Value}{r:C1L}(k:D N w0 (ov [.int .i64 r.s, .string r.p2.p5,c, .string r.t, .string r.p6] r::H) L K):D N w0 (ov [c] r.p2.a::H) L K:=by
 intro a w hf h;refine k a w hf (St.conv (h) ?_);intro b d;exact⟨([]++(([]++b)++([]++ []))),⟨[.int .i64 r.s],(([.string r.p2.p5]++ [c])++([.string r.t]++ [.string r.p6])),[],(([]++b)++([]++ [])),rfl,rfl,⟨rfl,rfl⟩,⟨([.string r.p2.p5]++ [c]),([.string r.t]++ [.string r.p6]),([]++b),([]++ []),rfl,rfl,⟨[.string r.p2.p5],[c],[],b,rfl,rfl,⟨rfl,rfl⟩,d⟩,⟨[.string r.t],[.string r.p6],[],[],rfl,rfl,⟨rfl,rfl⟩,⟨rfl,rfl⟩⟩⟩⟩,by simp⟩
theorem CH{w:World}{cs:List Value}{r:Go.Sy.Action}(h:Gd.rd w cs r):∃b,cs=[.int .i64 r.s, .string r.p2.p5,b]/\Gd.rd w [b] r.p2.a:=by
 obtain⟨c0,f,d,h0,e⟩:=h;obtain rfl:c0=[.int .i64 r.s]:=h0;obtain⟨b,rfl,c⟩:=B8 e;exact⟨b,by rw[d];rfl,c⟩
theorem PZ{w:World}{cs:List Value}{r:Go.Sy.Action}(h:Gd.rd w cs r):∃a,cs=[.int .i64 r.s, .string r.p2.p5,a]/\a.oneCell'=true:=by
 obtain⟨a,e,b⟩:=CH h;exact⟨a,e,A2 b⟩
theorem A9{w:World}{a:Value}{r:Go.Sy.Action}(h:Gd.rd w [.int .i64 r.s, .string r.p2.p5,a] r):Gd.rd w [.string r.p2.p5,a] r.p2:=by
 obtain⟨c0,d,b,h0,c⟩:=h;obtain rfl:c0=[.int .i64 r.s]:=h0;simp only[List.cons_append,List.nil_append,List.cons.injEq,true_and] at b;subst b;exact c
theorem WY{N:Nat}{w0:World}{H:List Chunk}{L:Fm}{K:Act->World->Prop}{c:Value}{r:Go.Sy.Action}(k:D N w0 (ov [.int .i64 r.s, .string r.p2.p5,c] r::H) L K):D N w0 (ov [c] r.p2.a::H) L K:=by
 intro a w hf h;refine k a w hf (St.conv (h) ?_);intro b d;exact⟨([]++([]++b)),⟨[.int .i64 r.s],([.string r.p2.p5]++ [c]),[],([]++b),rfl,rfl,⟨rfl,rfl⟩,⟨[.string r.p2.p5],[c],[],b,rfl,rfl,⟨rfl,rfl⟩,d⟩⟩,by simp⟩
theorem BC{w:World}{cs:List Value}{r:C1M}(h:Gd.rd w cs r):∃a,∃v2,cs=[.string r.y, .int .i64 r.p3,a,v2]/\Gd.rd w [a] r.q/\Gd.rd w [v2] r.q0:=by
 obtain⟨c0,j,d,h0,e⟩:=h;obtain⟨c1,l,f,h1,i⟩:=e;obtain⟨c2,k,g,b,c⟩:=i;obtain rfl:c0=[.string r.y]:=h0;obtain rfl:c1=[.int .i64 r.p3]:=h1;obtain⟨a,rfl⟩:=CL b;obtain⟨v2,rfl⟩:=CL c;exact⟨a,v2,by rw[d,f,g];rfl,b,c⟩
theorem TN{w:World}{cs:List Value}{r:C1M}(h:Gd.rd w cs r):∃a,∃v2,cs=[.string r.y, .int .i64 r.p3,a,v2]/\a.oneCell'=true/\v2.oneCell'=true:=by
 obtain⟨a,v2,e,b,c⟩:=BC h;exact⟨a,v2,e,A2 b,A2 c⟩
theorem iB{N:Nat}{w0:World}{H:List Chunk}{L:Fm}{K:Act->World->Prop}{d v2:Value}{r:C1M}(k:D N w0 (ov [.string r.y, .int .i64 r.p3,d,v2] r::H) L K):D N w0 (ov [d] r.q::ov [v2] r.q0::H) L K:=by
 intro a w hf h;refine k a w hf (St.conv (h.star) ?_);intro fp hfp;obtain⟨b,c,rfl,e,f⟩:=hfp;exact⟨([]++([]++(b++c))),⟨[.string r.y],([.int .i64 r.p3]++([d]++ [v2])),[],([]++(b++c)),rfl,rfl,⟨rfl,rfl⟩,⟨[.int .i64 r.p3],([d]++ [v2]),[],(b++c),rfl,rfl,⟨rfl,rfl⟩,⟨[d],[v2],b,c,rfl,rfl,e,f⟩⟩⟩,by simp⟩
theorem B9{w:World}{cs:List Value}{r:C1N}(h:Gd.rd w cs r):∃b,cs=[.string r.j.p5,b, .int .i64 r.q1]/\Gd.rd w [b] r.j.a:=by
 obtain⟨c0,d,e,h0,f⟩:=h;obtain⟨b,rfl,c⟩:=AS h0;obtain rfl:d=[.int .i64 r.q1]:=f;exact⟨b,by rw[e];rfl,c⟩
theorem SB{w:World}{cs:List Value}{r:C1N}(h:Gd.rd w cs r):∃a,cs=[.string r.j.p5,a, .int .i64 r.q1]/\a.oneCell'=true:=by
 obtain⟨a,e,b⟩:=B9 h;exact⟨a,e,A2 b⟩
theorem BE{w:World}{a:Value}{r:C1N}(h:Gd.rd w [.string r.j.p5,a, .int .i64 r.q1] r):Gd.rd w [.string r.j.p5,a] r.j:=by
 obtain⟨c0,c,d,h0,f⟩:=h;have hl:c0.length=2:=Gd.rd_len h0;have key:c0=[.string r.j.p5,a]:=by
  have b:=congrArg (List.take 2) d;have e:(c0++c).take 2=c0:=by rw[<-hl];exact List.take_left
  rw[e] at b;exact b.symm
 rw[<-key];exact h0
theorem aT{N:Nat}{w0:World}{H:List Chunk}{L:Fm}{K:Act->World->Prop}{c:Value}{r:C1N}(k:D N w0 (ov [.string r.j.p5,c, .int .i64 r.q1] r::H) L K):D N w0 (ov [c] r.j.a::H) L K:=by
 intro a w hf h;refine k a w hf (St.conv (h) ?_);intro b d;exact⟨(([]++b)++ []),⟨([.string r.j.p5]++ [c]),[.int .i64 r.q1],([]++b),[],rfl,rfl,⟨[.string r.j.p5],[c],[],b,rfl,rfl,⟨rfl,rfl⟩,d⟩,⟨rfl,rfl⟩⟩,by simp⟩
theorem BQ{w:World}{cs:List Value}{r:C1O}(h:Gd.rd w cs r):∃a,cs=[.string r.p7,a]/\Gd.rd w [a] r.q2:=by
 obtain⟨c0,d,c,h0,b⟩:=h;obtain rfl:c0=[.string r.p7]:=h0;obtain⟨a,rfl⟩:=CL b;exact⟨a,by rw[c];rfl,b⟩
theorem WZ{N:Nat}{w0:World}{H:List Chunk}{L:Fm}{K:Act->World->Prop}{c:Value}{r:C1O}(k:D N w0 (ov [.string r.p7,c] r::H) L K):D N w0 (ov [c] r.q2::H) L K:=by
 intro a w hf h;refine k a w hf (St.conv (h) ?_);intro b d;exact⟨([]++b),⟨[.string r.p7],[c],[],b,rfl,rfl,⟨rfl,rfl⟩,d⟩,by simp⟩
theorem C6{w:World}{cs:List Value}{r:C1P}(h:Gd.rd w cs r):∃a,∃v2,∃v3,∃v4,cs=[a,v2, .int .i64 r.g,v3, .bool r.p,v4]/\Gd.rd w [a] r.p8/\Gd.rd w [v2] r.w/\Gd.rd w [v3] r.m/\Gd.rd w [v4] r.u:=by
 obtain⟨c0,t,d,h0,e⟩:=h;obtain⟨c1,y,f,h1,s⟩:=e;obtain⟨c2,x,i,j,k⟩:=s;obtain⟨c3,v,l,b,n⟩:=k;obtain⟨c4,z,o,q,c⟩:=n;obtain⟨a,rfl⟩:=CL h0;obtain⟨v2,rfl⟩:=CL h1;obtain rfl:c2=[.int .i64 r.g]:=j;obtain⟨v3,rfl⟩:=CL b;obtain rfl:c4=[.bool r.p]:=q;obtain⟨v4,rfl⟩:=CL c;exact⟨a,v2,v3,v4,by rw[d,f,i,l,o];rfl,h0,h1,b,c⟩
theorem H5{w:World}{cs:List Value}{r:C1P}(h:Gd.rd w cs r):∃a,∃v2,∃v3,∃v4,cs=[a,v2, .int .i64 r.g,v3, .bool r.p,v4]/\a.oneCell'=true/\v2.oneCell'=true/\v3.oneCell'=true/\v4.oneCell'=true:=by
 obtain⟨a,v2,v3,v4,e,b,d,c,f⟩:=C6 h;exact⟨a,v2,v3,v4,e,A2 b,A2 d,A2 c,A2 f⟩
theorem W0{N:Nat}{w0:World}{H:List Chunk}{L:Fm}{K:Act->World->Prop}{f v2 v3 v4:Value}{r:C1P}(k:D N w0 (ov [f,v2, .int .i64 r.g,v3, .bool r.p,v4] r::H) L K):D N w0 (ov [f] r.p8::ov [v2] r.w::ov [v3] r.m::ov [v4] r.u::H) L K:=by
 intro a w hf h;refine k a w hf (St.conv (h.star.star.star) ?_);intro fp hfp;obtain⟨s,b,rfl,i,j⟩:=hfp;obtain⟨t,c,rfl,l,n⟩:=i;obtain⟨e,d,rfl,o,q⟩:=l;exact⟨(e++(d++([]++(c++([]++b))))),⟨[f],([v2]++([.int .i64 r.g]++([v3]++([.bool r.p]++ [v4])))),e,(d++([]++(c++([]++b)))),rfl,rfl,o,⟨[v2],([.int .i64 r.g]++([v3]++([.bool r.p]++ [v4]))),d,([]++(c++([]++b))),rfl,rfl,q,⟨[.int .i64 r.g],([v3]++([.bool r.p]++ [v4])),[],(c++([]++b)),rfl,rfl,⟨rfl,rfl⟩,⟨[v3],([.bool r.p]++ [v4]),c,([]++b),rfl,rfl,n,⟨[.bool r.p],[v4],[],b,rfl,rfl,⟨rfl,rfl⟩,j⟩⟩⟩⟩⟩,by simp⟩
theorem FG{w:World}{cs:List Value}{r:Go.Sy.Match}(h:Gd.rd w cs r):∃a,∃v2,cs=[.string r.p7,a,v2]/\Gd.rd w [a] r.k/\Gd.rd w [v2] r.f:=by
 obtain⟨c0,g,c,h0,d⟩:=h;obtain⟨c1,i,e,h1,b⟩:=d;obtain rfl:c0=[.string r.p7]:=h0;obtain⟨a,rfl⟩:=CL h1;obtain⟨v2,rfl⟩:=CL b;exact⟨a,v2,by rw[c,e];rfl,h1,b⟩
theorem KT{w:World}{cs:List Value}{r:Go.Sy.Match}(h:Gd.rd w cs r):∃a,∃v2,cs=[.string r.p7,a,v2]/\a.oneCell'=true/\v2.oneCell'=true:=by
 obtain⟨a,v2,e,b,c⟩:=FG h;exact⟨a,v2,e,A2 b,A2 c⟩
theorem aU{w:World}{a:Value}{v2:Value}(r:Go.Sy.Match)(b:Gd.rd w [a] r.k)(c:Gd.rd w [v2] r.f):Gd.rd w [.string r.p7,a,v2] r:=⟨[.string r.p7],([a]++ [v2]),rfl,rfl,⟨[a],[v2],rfl,b,c⟩⟩
theorem aV{N:Nat}{w0:World}{H:List Chunk}{L:Fm}{K:Act->World->Prop}{d v2:Value}{r:Go.Sy.Match}(k:D N w0 (ov [.string r.p7,d,v2] r::H) L K):D N w0 (ov [d] r.k::ov [v2] r.f::H) L K:=by
 intro a w hf h;refine k a w hf (St.conv (h.star) ?_);intro fp hfp;obtain⟨b,c,rfl,e,g⟩:=hfp;exact⟨([]++(b++c)),⟨[.string r.p7],([d]++ [v2]),[],(b++c),rfl,rfl,⟨rfl,rfl⟩,⟨[d],[v2],b,c,rfl,rfl,e,g⟩⟩,by simp⟩
theorem F3{w:World}{cs:List Value}{r:C3t}(h:Gd.rd w cs r):∃a,∃v2,cs=[a,v2]/\Gd.rd w [a] r.k/\Gd.rd w [v2] r.f:=by
 obtain⟨c0,d,c,h0,b⟩:=h;obtain⟨a,rfl⟩:=CL h0;obtain⟨v2,rfl⟩:=CL b;exact⟨a,v2,by rw[c];rfl,h0,b⟩
theorem aW{w:World}{cs:List Value}{r:C3t}(h:Gd.rd w cs r):∃a,∃v2,cs=[a,v2]/\a.oneCell'=true/\v2.oneCell'=true:=by
 obtain⟨a,v2,e,b,c⟩:=F3 h;exact⟨a,v2,e,A2 b,A2 c⟩
theorem P1{w:World}{a:Value}{v2:Value}(r:C3t)(b:Gd.rd w [a] r.k)(c:Gd.rd w [v2] r.f):Gd.rd w [a,v2] r:=⟨[a],[v2],rfl,b,c⟩
theorem TO{N:Nat}{w0:World}{H:List Chunk}{L:Fm}{K:Act->World->Prop}{d v2:Value}{r:C3t}(k:D N w0 (ov [d,v2] r::H) L K):D N w0 (ov [d] r.k::ov [v2] r.f::H) L K:=by
 intro a w hf h;refine k a w hf (St.conv (h.star) ?_);intro fp hfp;obtain⟨b,c,rfl,e,g⟩:=hfp;exact⟨(b++c),⟨[d],[v2],b,c,rfl,rfl,e,g⟩,by simp⟩
theorem BF{w:World}{cs:List Value}{r:C3z}(h:Gd.rd w cs r):∃a,∃v2,∃v3,cs=[.string r.v.p7,a,v2, .int .i64 r.p3,v3, .int .i64 r.p9, .int .i64 r.p0]/\Gd.rd w [a] r.v.k/\Gd.rd w [v2] r.v.f/\Gd.rd w [v3] r.q2:=by
 obtain⟨c0,s,e,h0,g⟩:=h;obtain⟨c1,u,i,h1,q⟩:=g;obtain⟨c2,t,j,d,l⟩:=q;obtain⟨c3,p,m,n,o⟩:=l;obtain⟨a,v2,rfl,b,c⟩:=FG h0;obtain rfl:c1=[.int .i64 r.p3]:=h1;obtain⟨v3,rfl⟩:=CL d;obtain rfl:c3=[.int .i64 r.p9]:=n;obtain rfl:p=[.int .i64 r.p0]:=o;exact⟨a,v2,v3,by rw[e,i,j,m];rfl,b,c,d⟩
theorem F4{w:World}{cs:List Value}{r:C3z}(h:Gd.rd w cs r):∃a,∃v2,∃v3,cs=[.string r.v.p7,a,v2, .int .i64 r.p3,v3, .int .i64 r.p9, .int .i64 r.p0]/\a.oneCell'=true/\v2.oneCell'=true/\v3.oneCell'=true:=by
 obtain⟨a,v2,v3,e,b,d,c⟩:=BF h;exact⟨a,v2,v3,e,A2 b,A2 d,A2 c⟩
theorem AQ{w:World}{a v2 v3:Value}{r:C3z}(h:Gd.rd w [.string r.v.p7,a,v2, .int .i64 r.p3,v3, .int .i64 r.p9, .int .i64 r.p0] r):Gd.rd w [.string r.v.p7,a,v2] r.v:=by
 obtain⟨c0,c,d,h0,f⟩:=h;have hl:c0.length=3:=Gd.rd_len h0;have key:c0=[.string r.v.p7,a,v2]:=by
  have b:=congrArg (List.take 3) d;have e:(c0++c).take 3=c0:=by rw[<-hl];exact List.take_left
  rw[e] at b;exact b.symm
 rw[<-key];exact h0
theorem lQ{w:World}{a:Value}{v2:Value}{v3:Value}(r:C3z)(b:Gd.rd w [a] r.v.k)(c:Gd.rd w [v2] r.v.f)(d:Gd.rd w [v3] r.q2):Gd.rd w [.string r.v.p7,a,v2, .int .i64 r.p3,v3, .int .i64 r.p9, .int .i64 r.p0] r:=⟨([.string r.v.p7]++([a]++ [v2])),([.int .i64 r.p3]++([v3]++([.int .i64 r.p9]++ [.int .i64 r.p0]))),rfl,⟨[.string r.v.p7],([a]++ [v2]),rfl,rfl,⟨[a],[v2],rfl,b,c⟩⟩,⟨[.int .i64 r.p3],([v3]++([.int .i64 r.p9]++ [.int .i64 r.p0])),rfl,rfl,⟨[v3],([.int .i64 r.p9]++ [.int .i64 r.p0]),rfl,d,⟨[.int .i64 r.p9],[.int .i64 r.p0],rfl,rfl,rfl⟩⟩⟩⟩
theorem FO{N:Nat}{w0:World}{H:List Chunk}{L:Fm}{K:Act->World->Prop}{e v2 v3:Value}{r:C3z}(k:D N w0 (ov [.string r.v.p7,e,v2, .int .i64 r.p3,v3, .int .i64 r.p9, .int .i64 r.p0] r::H) L K):D N w0 (ov [e] r.v.k::ov [v2] r.v.f::ov [v3] r.q2::H) L K:=by
 intro a w hf h;refine k a w hf (St.conv (h.star.star) ?_);intro fp hfp;obtain⟨m,b,rfl,g,i⟩:=hfp;obtain⟨c,d,rfl,j,l⟩:=g;exact⟨(([]++(c++d))++([]++(b++([]++ [])))),⟨([.string r.v.p7]++([e]++ [v2])),([.int .i64 r.p3]++([v3]++([.int .i64 r.p9]++ [.int .i64 r.p0]))),([]++(c++d)),([]++(b++([]++ []))),rfl,rfl,⟨[.string r.v.p7],([e]++ [v2]),[],(c++d),rfl,rfl,⟨rfl,rfl⟩,⟨[e],[v2],c,d,rfl,rfl,j,l⟩⟩,⟨[.int .i64 r.p3],([v3]++([.int .i64 r.p9]++ [.int .i64 r.p0])),[],(b++([]++ [])),rfl,rfl,⟨rfl,rfl⟩,⟨[v3],([.int .i64 r.p9]++ [.int .i64 r.p0]),b,([]++ []),rfl,rfl,i,⟨[.int .i64 r.p9],[.int .i64 r.p0],[],[],rfl,rfl,⟨rfl,rfl⟩,⟨rfl,rfl⟩⟩⟩⟩⟩,by simp⟩
end Go.Sy
